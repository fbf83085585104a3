/-
  Part 1 of the proof of HelloForms.
-/
import Derived.Test.YtkgeoekcnlgfnaaGreatDoorKf1
import Derived.Test.YtkgeoekcnlgfnaaGreatDoorKf2
import Derived.Test.YtkgeoekcnlgfnaaGreatDoorKf3
import Derived.Test.YtkgeoekcnlgfnaaGreatDoorKf4
import Derived.Test.YtkgeoekcnlgfnaaGreatDoorKf5
import Derived.Test.YtkgeoekcnlgfnaaGreatDoorKf6
import Derived.Test.YtkgeoekcnlgfnaaGreatDoorKf7
import Derived.Test.YtkgeoekcnlgfnaaGreatDoorKf8
import Derived.Test.YtkgeoekcnlgfnaaGreatDoorKf9
import Derived.Test.YtkgeoekcnlgfnaaGreatDoorKf10
import Derived.Test.YtkgeoekcnlgfnaaGreatDoorKf11
import Derived.Test.YtkgeoekcnlgfnaaGreatDoorKf12
import Derived.Test.YtkgeoekcnlgfnaaGreatDoorKf13
import Derived.Test.YtkgeoekcnlgfnaaGreatDoorKf14
import Derived.Test.YtkgeoekcnlgfnaaGreatDoorKf15
import Derived.Test.YtkgeoekcnlgfnaaGreatDoorKf16
import Derived.Test.YtkgeoekcnlgfnaaGreatDoorKf17
import Derived.Test.YtkgeoekcnlgfnaaGreatDoorKf18
import Derived.Test.YtkgeoekcnlgfnaaGreatDoorKf19
import Derived.Test.YtkgeoekcnlgfnaaGreatDoorKf20
import Derived.Test.YtkgeoekcnlgfnaaGreatDoorKf21
import Derived.Test.YtkgeoekcnlgfnaaGreatDoorKf22
import Derived.Test.YtkgeoekcnlgfnaaGreatDoorKf23
import Derived.Test.YtkgeoekcnlgfnaaGreatDoorKf24
import Derived.Test.YtkgeoekcnlgfnaaGreatDoorKf25
import Derived.Test.YtkgeoekcnlgfnaaGreatDoorKf26
import Derived.Test.YtkgeoekcnlgfnaaGreatDoorKf27
import Derived.Test.YtkgeoekcnlgfnaaGreatDoorKf28
import Derived.Test.YtkgeoekcnlgfnaaGreatDoorKf29
set_option linter.unusedVariables false
set_option linter.unusedSimpArgs false
section
namespace Go.Proofs
open Go Go.Kx
open TryzI Tryz
def halberdlaw24_HelloForms (which:Int) (x:Int) (server:Bool):Option (Bool) :=
 (halberdlaw24_awake).bind fun (r_1:Bool)=>(if (!r_1)=true then (some false) else ((halberdlaw24_Client).bind fun (r_2:Str × List (Int) × List (Int) × List (Str) × List (Str) × (List (Str × Str × Int × Int × Int × Int)))=>((if server=true then ((halberdlaw24_Server).bind fun (r_56:Str × List (Int) × List (Int) × List (Str) × List (Str) × (List (Str × Str × Int × Int × Int × Int)))=>(some (true,r_56.2.1,r_56.2.2.1,r_56.2.2.2.1,r_56.1,r_56.2.2.2.2.1,([]:Str),r_56.2.2.2.2.2))) else (some (false,r_2.2.1,r_2.2.2.1,r_2.2.2.2.1,([]:Str),r_2.2.2.2.2.1,r_2.1,r_2.2.2.2.2.2))).bind fun (j1:Bool × List (Int) × List (Int) × List (Str) × Str × List (Str) × Str × (List (Str × Str × Int × Int × Int × Int)))=>(ltt (w64 (1+(iop (· &&& ·) x 63))) fun (d1:Int)=>(ltt (decide (((BitVec.ofInt 64 which) % 20#64)=0#64)) fun (x1:Bool)=>(if x1=true then ((if ((BitVec.ofInt 64 which) % 20#64)=17#64 then (some (decide ((iop (· &&& ·) d1 31)=0))) else (some false)).bind fun (j2:Bool)=>(if j2=true then ((hello_May j1.1 ([]:List (Int)) j1.2.2.1 j1.2.2.2.1 j1.2.2.2.2.1 j1.2.2.2.2.2.1 j1.2.2.2.2.2.2.1 0 ([]:Str) j1.2.2.2.2.2.2.2 ([]:Str) 1000 0 10 33290).bind fun (r_3:Bool)=>((if (r_3 == server)=true then ((halberdlaw24_Client).bind fun (r_4:Str × List (Int) × List (Int) × List (Str) × List (Str) × (List (Str × Str × Int × Int × Int × Int)))=>((hello_May false r_4.2.1 r_4.2.2.1 r_4.2.2.2.1 ([]:Str) r_4.2.2.2.2.1 r_4.1 0 ([]:Str) r_4.2.2.2.2.2 ([]:Str) 1000 0 10 33290).bind fun (r_5:Bool)=>(if r_5=true then ((halberdlaw24_Server).bind fun (r_6:Str × List (Int) × List (Int) × List (Str) × List (Str) × (List (Str × Str × Int × Int × Int × Int)))=>((hello_May true r_6.2.1 r_6.2.2.1 r_6.2.2.2.1 r_6.1 r_6.2.2.2.2.1 ([]:Str) 0 ([]:Str) r_6.2.2.2.2.2 ([]:Str) 1000 0 10 33290).bind fun (r_7:Bool)=>(some r_7))) else (some false)))) else (some false)).bind fun (j3:Bool)=>(some j3))) else ((hello_May j1.1 ([]:List (Int)) j1.2.2.1 j1.2.2.2.1 j1.2.2.2.2.1 j1.2.2.2.2.2.1 j1.2.2.2.2.2.2.1 0 ([]:Str) j1.2.2.2.2.2.2.2 ([]:Str) 1000 0 10 33290).bind fun (r_8:Bool)=>(if (!r_8)=true then ((halberdlaw24_Client).bind fun (r_9:Str × List (Int) × List (Int) × List (Str) × List (Str) × (List (Str × Str × Int × Int × Int × Int)))=>((hello_May false r_9.2.1 r_9.2.2.1 r_9.2.2.2.1 ([]:Str) r_9.2.2.2.2.1 r_9.1 0 ([]:Str) r_9.2.2.2.2.2 ([]:Str) 1000 0 10 33290).bind fun (r_10:Bool)=>(if r_10=true then ((halberdlaw24_Server).bind fun (r_11:Str × List (Int) × List (Int) × List (Str) × List (Str) × (List (Str × Str × Int × Int × Int × Int)))=>((hello_May true r_11.2.1 r_11.2.2.1 r_11.2.2.2.1 r_11.1 r_11.2.2.2.2.1 ([]:Str) 0 ([]:Str) r_11.2.2.2.2.2 ([]:Str) 1000 0 10 33290).bind fun (r_12:Bool)=>(some r_12))) else (some false)))) else (some false))))) else (ltt (decide (((BitVec.ofInt 64 which) % 20#64)=1#64)) fun (x2:Bool)=>(if x2=true then ((if ((BitVec.ofInt 64 which) % 20#64)=17#64 then (some (decide ((iop (· &&& ·) d1 31)=0))) else (some false)).bind fun (j4:Bool)=>(if j4=true then ((hello_May j1.1 ([4865,4865]:List (Int)) j1.2.2.1 j1.2.2.2.1 j1.2.2.2.2.1 j1.2.2.2.2.2.1 j1.2.2.2.2.2.2.1 0 ([]:Str) j1.2.2.2.2.2.2.2 ([]:Str) 1000 0 10 33290).bind fun (r_13:Bool)=>((if (r_13 == server)=true then ((halberdlaw24_Client).bind fun (r_14:Str × List (Int) × List (Int) × List (Str) × List (Str) × (List (Str × Str × Int × Int × Int × Int)))=>((hello_May false r_14.2.1 r_14.2.2.1 r_14.2.2.2.1 ([]:Str) r_14.2.2.2.2.1 r_14.1 0 ([]:Str) r_14.2.2.2.2.2 ([]:Str) 1000 0 10 33290).bind fun (r_15:Bool)=>(if r_15=true then ((halberdlaw24_Server).bind fun (r_16:Str × List (Int) × List (Int) × List (Str) × List (Str) × (List (Str × Str × Int × Int × Int × Int)))=>((hello_May true r_16.2.1 r_16.2.2.1 r_16.2.2.2.1 r_16.1 r_16.2.2.2.2.1 ([]:Str) 0 ([]:Str) r_16.2.2.2.2.2 ([]:Str) 1000 0 10 33290).bind fun (r_17:Bool)=>(some r_17))) else (some false)))) else (some false)).bind fun (j5:Bool)=>(some j5))) else ((hello_May j1.1 ([4865,4865]:List (Int)) j1.2.2.1 j1.2.2.2.1 j1.2.2.2.2.1 j1.2.2.2.2.2.1 j1.2.2.2.2.2.2.1 0 ([]:Str) j1.2.2.2.2.2.2.2 ([]:Str) 1000 0 10 33290).bind fun (r_18:Bool)=>(if (!r_18)=true then ((halberdlaw24_Client).bind fun (r_19:Str × List (Int) × List (Int) × List (Str) × List (Str) × (List (Str × Str × Int × Int × Int × Int)))=>((hello_May false r_19.2.1 r_19.2.2.1 r_19.2.2.2.1 ([]:Str) r_19.2.2.2.2.1 r_19.1 0 ([]:Str) r_19.2.2.2.2.2 ([]:Str) 1000 0 10 33290).bind fun (r_20:Bool)=>(if r_20=true then ((halberdlaw24_Server).bind fun (r_21:Str × List (Int) × List (Int) × List (Str) × List (Str) × (List (Str × Str × Int × Int × Int × Int)))=>((hello_May true r_21.2.1 r_21.2.2.1 r_21.2.2.2.1 r_21.1 r_21.2.2.2.2.1 ([]:Str) 0 ([]:Str) r_21.2.2.2.2.2 ([]:Str) 1000 0 10 33290).bind fun (r_22:Bool)=>(some r_22))) else (some false)))) else (some false))))) else (ltt (decide (((BitVec.ofInt 64 which) % 20#64)=2#64)) fun (x3:Bool)=>(if x3=true then ((if ((BitVec.ofInt 64 which) % 20#64)=17#64 then (some (decide ((iop (· &&& ·) d1 31)=0))) else (some false)).bind fun (j6:Bool)=>(if j6=true then ((hello_May j1.1 ([w64 (4867+d1)]:List (Int)) j1.2.2.1 j1.2.2.2.1 j1.2.2.2.2.1 j1.2.2.2.2.2.1 j1.2.2.2.2.2.2.1 0 ([]:Str) j1.2.2.2.2.2.2.2 ([]:Str) 1000 0 10 33290).bind fun (r_23:Bool)=>((if (r_23 == server)=true then ((halberdlaw24_Client).bind fun (r_24:Str × List (Int) × List (Int) × List (Str) × List (Str) × (List (Str × Str × Int × Int × Int × Int)))=>((hello_May false r_24.2.1 r_24.2.2.1 r_24.2.2.2.1 ([]:Str) r_24.2.2.2.2.1 r_24.1 0 ([]:Str) r_24.2.2.2.2.2 ([]:Str) 1000 0 10 33290).bind fun (r_25:Bool)=>(if r_25=true then ((halberdlaw24_Server).bind fun (r_26:Str × List (Int) × List (Int) × List (Str) × List (Str) × (List (Str × Str × Int × Int × Int × Int)))=>((hello_May true r_26.2.1 r_26.2.2.1 r_26.2.2.2.1 r_26.1 r_26.2.2.2.2.1 ([]:Str) 0 ([]:Str) r_26.2.2.2.2.2 ([]:Str) 1000 0 10 33290).bind fun (r_27:Bool)=>(some r_27))) else (some false)))) else (some false)).bind fun (j7:Bool)=>(some j7))) else ((hello_May j1.1 ([w64 (4867+d1)]:List (Int)) j1.2.2.1 j1.2.2.2.1 j1.2.2.2.2.1 j1.2.2.2.2.2.1 j1.2.2.2.2.2.2.1 0 ([]:Str) j1.2.2.2.2.2.2.2 ([]:Str) 1000 0 10 33290).bind fun (r_28:Bool)=>(if (!r_28)=true then ((halberdlaw24_Client).bind fun (r_29:Str × List (Int) × List (Int) × List (Str) × List (Str) × (List (Str × Str × Int × Int × Int × Int)))=>((hello_May false r_29.2.1 r_29.2.2.1 r_29.2.2.2.1 ([]:Str) r_29.2.2.2.2.1 r_29.1 0 ([]:Str) r_29.2.2.2.2.2 ([]:Str) 1000 0 10 33290).bind fun (r_30:Bool)=>(if r_30=true then ((halberdlaw24_Server).bind fun (r_31:Str × List (Int) × List (Int) × List (Str) × List (Str) × (List (Str × Str × Int × Int × Int × Int)))=>((hello_May true r_31.2.1 r_31.2.2.1 r_31.2.2.2.1 r_31.1 r_31.2.2.2.2.1 ([]:Str) 0 ([]:Str) r_31.2.2.2.2.2 ([]:Str) 1000 0 10 33290).bind fun (r_32:Bool)=>(some r_32))) else (some false)))) else (some false))))) else (ltt (decide (((BitVec.ofInt 64 which) % 20#64)=3#64)) fun (x4:Bool)=>(if x4=true then ((if ((BitVec.ofInt 64 which) % 20#64)=17#64 then (some (decide ((iop (· &&& ·) d1 31)=0))) else (some false)).bind fun (j8:Bool)=>(if j8=true then ((hello_May j1.1 j1.2.1 ([]:List (Int)) j1.2.2.2.1 j1.2.2.2.2.1 j1.2.2.2.2.2.1 j1.2.2.2.2.2.2.1 0 ([]:Str) j1.2.2.2.2.2.2.2 ([]:Str) 1000 0 10 33290).bind fun (r_33:Bool)=>((if (r_33 == server)=true then ((halberdlaw24_Client).bind fun (r_34:Str × List (Int) × List (Int) × List (Str) × List (Str) × (List (Str × Str × Int × Int × Int × Int)))=>((hello_May false r_34.2.1 r_34.2.2.1 r_34.2.2.2.1 ([]:Str) r_34.2.2.2.2.1 r_34.1 0 ([]:Str) r_34.2.2.2.2.2 ([]:Str) 1000 0 10 33290).bind fun (r_35:Bool)=>(if r_35=true then ((halberdlaw24_Server).bind fun (r_36:Str × List (Int) × List (Int) × List (Str) × List (Str) × (List (Str × Str × Int × Int × Int × Int)))=>((hello_May true r_36.2.1 r_36.2.2.1 r_36.2.2.2.1 r_36.1 r_36.2.2.2.2.1 ([]:Str) 0 ([]:Str) r_36.2.2.2.2.2 ([]:Str) 1000 0 10 33290).bind fun (r_37:Bool)=>(some r_37))) else (some false)))) else (some false)).bind fun (j9:Bool)=>(some j9))) else ((hello_May j1.1 j1.2.1 ([]:List (Int)) j1.2.2.2.1 j1.2.2.2.2.1 j1.2.2.2.2.2.1 j1.2.2.2.2.2.2.1 0 ([]:Str) j1.2.2.2.2.2.2.2 ([]:Str) 1000 0 10 33290).bind fun (r_38:Bool)=>(if (!r_38)=true then ((halberdlaw24_Client).bind fun (r_39:Str × List (Int) × List (Int) × List (Str) × List (Str) × (List (Str × Str × Int × Int × Int × Int)))=>((hello_May false r_39.2.1 r_39.2.2.1 r_39.2.2.2.1 ([]:Str) r_39.2.2.2.2.1 r_39.1 0 ([]:Str) r_39.2.2.2.2.2 ([]:Str) 1000 0 10 33290).bind fun (r_40:Bool)=>(if r_40=true then ((halberdlaw24_Server).bind fun (r_41:Str × List (Int) × List (Int) × List (Str) × List (Str) × (List (Str × Str × Int × Int × Int × Int)))=>((hello_May true r_41.2.1 r_41.2.2.1 r_41.2.2.2.1 r_41.1 r_41.2.2.2.2.1 ([]:Str) 0 ([]:Str) r_41.2.2.2.2.2 ([]:Str) 1000 0 10 33290).bind fun (r_42:Bool)=>(some r_42))) else (some false)))) else (some false))))) else (ltt (decide (((BitVec.ofInt 64 which) % 20#64)=4#64)) fun (x5:Bool)=>((if x5=true then (some (j1.1,([23,23]:List (Int)),j1.2.2.2.1,j1.2.2.2.2.2.1,0,([]:Str),([]:Str),1000,0,10,33290)) else (ltt (decide (((BitVec.ofInt 64 which) % 20#64)=5#64)) fun (x6:Bool)=>(if x6=true then (some (j1.1,([w64 (30+d1)]:List (Int)),j1.2.2.2.1,j1.2.2.2.2.2.1,0,([]:Str),([]:Str),1000,0,10,33290)) else (ltt (decide (((BitVec.ofInt 64 which) % 20#64)=6#64)) fun (x7:Bool)=>(if x7=true then (some (j1.1,j1.2.2.1,j1.2.2.2.1,j1.2.2.2.2.2.1,0,([]:Str),([]:Str),w64 (0 - d1),0,10,33290)) else (ltt (decide (((BitVec.ofInt 64 which) % 20#64)=7#64)) fun (x8:Bool)=>(if x8=true then (some (j1.1,j1.2.2.1,j1.2.2.2.1,j1.2.2.2.2.2.1,0,([]:Str),([]:Str),w64 (4294967295+d1),0,10,33290)) else (ltt (decide (((BitVec.ofInt 64 which) % 20#64)=8#64)) fun (x9:Bool)=>(if x9=true then (some (j1.1,j1.2.2.1,j1.2.2.2.1,j1.2.2.2.2.2.1,0,([]:Str),([]:Str),1000,w64 (0 - d1),10,33290)) else (ltt (decide (((BitVec.ofInt 64 which) % 20#64)=9#64)) fun (x10:Bool)=>(if x10=true then (some (j1.1,j1.2.2.1,j1.2.2.2.1,j1.2.2.2.2.2.1,0,([]:Str),([]:Str),1000,w64 (16384+d1),10,33290)) else (ltt (decide (((BitVec.ofInt 64 which) % 20#64)=10#64)) fun (x11:Bool)=>(if x11=true then (some (j1.1,j1.2.2.1,j1.2.2.2.1,j1.2.2.2.2.2.1,0,([]:Str),([]:Str),1000,0,w64 (4 - d1),33290)) else (ltt (decide (((BitVec.ofInt 64 which) % 20#64)=11#64)) fun (x12:Bool)=>(if x12=true then (some (j1.1,j1.2.2.1,j1.2.2.2.1,j1.2.2.2.2.2.1,0,([]:Str),([]:Str),1000,0,w64 (16777216+d1),33290)) else (ltt (decide (((BitVec.ofInt 64 which) % 20#64)=12#64)) fun (x13:Bool)=>(if x13=true then (some (j1.1,j1.2.2.1,j1.2.2.2.1,j1.2.2.2.2.2.1,0,([]:Str),([]:Str),1000,0,10,w64 (33290 - d1))) else (ltt (decide (((BitVec.ofInt 64 which) % 20#64)=13#64)) fun (x14:Bool)=>(if x14=true then (some (j1.1,j1.2.2.1,j1.2.2.2.1,j1.2.2.2.2.2.1,0,([]:Str),([]:Str),1000,0,10,w64 (262144+d1))) else (ltt (decide (((BitVec.ofInt 64 which) % 20#64)=14#64)) fun (x15:Bool)=>(if x15=true then ((halberdlaw24_z (w64 (65536+d1))).bind fun (r_53:Str)=>(some (j1.1,j1.2.2.1,j1.2.2.2.1,j1.2.2.2.2.2.1,0,([]:Str),r_53,1000,0,10,33290))) else (ltt (decide (((BitVec.ofInt 64 which) % 20#64)=15#64)) fun (x16:Bool)=>(if x16=true then (some (!j1.1,j1.2.2.1,j1.2.2.2.1,j1.2.2.2.2.2.1,0,([]:Str),([]:Str),1000,0,10,33290)) else (ltt (decide (((BitVec.ofInt 64 which) % 20#64)=16#64)) fun (x17:Bool)=>(if x17=true then (some (j1.1,j1.2.2.1,j1.2.2.2.1,j1.2.2.2.2.2.1,d1,([]:Str),([]:Str),1000,0,10,33290)) else (ltt (decide (((BitVec.ofInt 64 which) % 20#64)=17#64)) fun (x18:Bool)=>(if x18=true then ((halberdlaw24_z (w64 (32 - (iop (· &&& ·) d1 31)))).bind fun (r_54:Str)=>(some (j1.1,j1.2.2.1,j1.2.2.2.1,j1.2.2.2.2.2.1,0,r_54,([]:Str),1000,0,10,33290))) else (ltt (decide (((BitVec.ofInt 64 which) % 20#64)=18#64)) fun (x19:Bool)=>(if x19=true then (if (j1.2.2.2.1).length+(([([]:Str)]:List (Str))).length≤8796093022208 then (ltt (j1.2.2.2.1++([([]:Str)]:List (Str))) fun (l1:List (Str))=>(some (j1.1,j1.2.2.1,l1,j1.2.2.2.2.2.1,0,([]:Str),([]:Str),1000,0,10,33290))) else none) else ((halberdlaw24_z (w64 (16384+d1))).bind fun (r_55:Str)=>(some (j1.1,j1.2.2.1,j1.2.2.2.1,([r_55]:List (Str)),0,([]:Str),([]:Str),1000,0,10,33290)))))))))))))))))))))))))))))))).bind fun (j10:Bool × List (Int) × List (Str) × List (Str) × Int × Str × Str × Int × Int × Int × Int)=>((if ((BitVec.ofInt 64 which) % 20#64)=17#64 then (some (decide ((iop (· &&& ·) d1 31)=0))) else (some false)).bind fun (j11:Bool)=>(if j11=true then ((hello_May j10.1 j1.2.1 j10.2.1 j10.2.2.1 j1.2.2.2.2.1 j10.2.2.2.1 j1.2.2.2.2.2.2.1 j10.2.2.2.2.1 j10.2.2.2.2.2.1 j1.2.2.2.2.2.2.2 j10.2.2.2.2.2.2.1 j10.2.2.2.2.2.2.2.1 j10.2.2.2.2.2.2.2.2.1 j10.2.2.2.2.2.2.2.2.2.1 j10.2.2.2.2.2.2.2.2.2.2).bind fun (r_43:Bool)=>((if (r_43 == server)=true then ((halberdlaw24_Client).bind fun (r_44:Str × List (Int) × List (Int) × List (Str) × List (Str) × (List (Str × Str × Int × Int × Int × Int)))=>((hello_May false r_44.2.1 r_44.2.2.1 r_44.2.2.2.1 ([]:Str) r_44.2.2.2.2.1 r_44.1 0 ([]:Str) r_44.2.2.2.2.2 ([]:Str) 1000 0 10 33290).bind fun (r_45:Bool)=>(if r_45=true then ((halberdlaw24_Server).bind fun (r_46:Str × List (Int) × List (Int) × List (Str) × List (Str) × (List (Str × Str × Int × Int × Int × Int)))=>((hello_May true r_46.2.1 r_46.2.2.1 r_46.2.2.2.1 r_46.1 r_46.2.2.2.2.1 ([]:Str) 0 ([]:Str) r_46.2.2.2.2.2 ([]:Str) 1000 0 10 33290).bind fun (r_47:Bool)=>(some r_47))) else (some false)))) else (some false)).bind fun (j12:Bool)=>(some j12))) else ((hello_May j10.1 j1.2.1 j10.2.1 j10.2.2.1 j1.2.2.2.2.1 j10.2.2.2.1 j1.2.2.2.2.2.2.1 j10.2.2.2.2.1 j10.2.2.2.2.2.1 j1.2.2.2.2.2.2.2 j10.2.2.2.2.2.2.1 j10.2.2.2.2.2.2.2.1 j10.2.2.2.2.2.2.2.2.1 j10.2.2.2.2.2.2.2.2.2.1 j10.2.2.2.2.2.2.2.2.2.2).bind fun (r_48:Bool)=>(if (!r_48)=true then ((halberdlaw24_Client).bind fun (r_49:Str × List (Int) × List (Int) × List (Str) × List (Str) × (List (Str × Str × Int × Int × Int × Int)))=>((hello_May false r_49.2.1 r_49.2.2.1 r_49.2.2.2.1 ([]:Str) r_49.2.2.2.2.1 r_49.1 0 ([]:Str) r_49.2.2.2.2.2 ([]:Str) 1000 0 10 33290).bind fun (r_50:Bool)=>(if r_50=true then ((halberdlaw24_Server).bind fun (r_51:Str × List (Int) × List (Int) × List (Str) × List (Str) × (List (Str × Str × Int × Int × Int × Int)))=>((hello_May true r_51.2.1 r_51.2.2.1 r_51.2.2.2.1 r_51.1 r_51.2.2.2.2.1 ([]:Str) 0 ([]:Str) r_51.2.2.2.2.2 ([]:Str) 1000 0 10 33290).bind fun (r_52:Bool)=>(some r_52))) else (some false)))) else (some false)))))))))))))))))))
set_option maxHeartbeats 4000000 in
set_option maxRecDepth 20000 in
theorem F5_calls (which:Int) (x:Int) (server:Bool) (r:Bool) (H:halberdlaw24_HelloForms which x server=some r) :
  Does Tryz.prog 5 [vi which,vi x,vb server] [] [⟨some (0,0),[hdE]⟩] (Γ:=Unit) (fun g=>vb r) (fun g=>[]):=by
 intro w hmem hro hd
 refine calls_of (N:=153) (m0:=[(0,vi which),(1,vi x),(2,vb server)]) func5 rfl ntmps5 (argM_ok [vi which,vi x,vb server]) rfl hmem hro hd ?_
 unfold halberdlaw24_HelloForms at H
 refine TC_seq (TC_region (TVa ?_))
 refine TL_nil (TX_next (TC_seq (TC_seq (TC_region ?_))))
 obtain ⟨r_1,hr_1,H⟩:=bind_elim H
 refine TLe (E_c0 (F22_calls r_1 hr_1) call22 ⟨.r 0,trivial⟩) (fun g_1=>?_)
 refine TLv (V_un rfl (fun w=>notB w r_1)) ?_
 refine TL_nil (TX_next (TCb H (fun hc H=>?_) (fun hc H=>?_)))
 ·refine TC_seq (TC_region (TVa ?_))
  refine TL_nil (TX_next (TC_ret (TX_then_ret ?_)))
  obtain rfl:=sj H
  exact TX1
 ·refine TC_skip (TX_next (TC_seq (TC_region ?_)))
  obtain ⟨r_2,hr_2,H⟩:=bind_elim H
  refine TLe (E_call (Γ:=Nat × Nat × Adr × Adr × Adr) (val:=fun g=>aG [(1,[vb false]),(1,[sl (some (g.1,0)) ((r_2.2.1).length) ((r_2.2.1++([]:List (Int))).length)]),(1,[sl (some (g.2.1,0)) ((r_2.2.2.1).length) ((r_2.2.2.1++([]:List (Int))).length)]),(1,[sl g.2.2.1 ((r_2.2.2.2.1).length) ((r_2.2.2.2.1++([]:List (Str))).length)]),(1,[vs ([]:Str)]),(1,[sl g.2.2.2.1 ((r_2.2.2.2.2.1).length) ((r_2.2.2.2.2.1++([]:List (Str))).length)]),(1,[vs r_2.1]),(1,[vi 0]),(1,[vs ([]:Str)]),(1,[sl g.2.2.2.2 ((r_2.2.2.2.2.2).length) ((r_2.2.2.2.2.2++([]:List (Str × Str × Int × Int × Int × Int))).length)]),(1,[vs ([]:Str)]),(1,[vi 1000]),(1,[vi 0]),(1,[vi 10]),(1,[vi 33290])]) (mem:=fun g=>[⟨some (g.1,0),eI (r_2.2.1++([]:List (Int)))⟩,⟨some (g.2.1,0),eI (r_2.2.2.1++([]:List (Int)))⟩,⟨g.2.2.1,eS (r_2.2.2.2.1++([]:List (Str)))⟩,⟨g.2.2.2.1,eS (r_2.2.2.2.2.1++([]:List (Str)))⟩,⟨g.2.2.2.2,eF (fun p:Str × Str × Int × Int × Int × Int=>[vs p.1,vs p.2.1,vi p.2.2.1,vi p.2.2.2.1,vi p.2.2.2.2.1,vi p.2.2.2.2.2]) (r_2.2.2.2.2.2++([]:List (Str × Str × Int × Int × Int × Int)))⟩]) (vs:=[]) (Lin:=[]) (Ro:=[]) (is:=[]) rfl call24 (F24_calls r_2 hr_2) rfl trivial) (fun g_2=>?_)
  refine TLe (E_allocP [(1,[vb false]),(1,[sl none 0 0]),(1,[sl none 0 0]),(1,[sl none 0 0]),(1,[vs ([]:Str)]),(1,[sl none 0 0]),(1,[vs ([]:Str)]),(1,[vi 0]),(1,[vs ([]:Str)]),(1,[sl none 0 0]),(1,[vs ([]:Str)]),(1,[vi 0]),(1,[vi 0]),(1,[vi 0]),(1,[vi 0])] inf26 zer26 ⟨rfl,rfl,rfl,rfl,rfl,rfl,rfl,rfl,rfl,rfl,rfl,rfl,rfl,rfl,rfl,trivial⟩) (fun b1=>?_)
  refine TL_gen5 (Lf:=fun An1 An2 An3 An4 An5=>[⟨An5,eF (fun p:Str × Str × Int × Int × Int × Int=>[vs p.1,vs p.2.1,vi p.2.2.1,vi p.2.2.2.1,vi p.2.2.2.2.1,vi p.2.2.2.2.2]) (([]:List (Str × Str × Int × Int × Int × Int))++([]:List (Str × Str × Int × Int × Int × Int)))⟩,⟨An4,eS (([]:List (Str))++([]:List (Str)))⟩,⟨An3,eS (([]:List (Str))++([]:List (Str)))⟩,⟨An2,eI (([]:List (Int))++([]:List (Int)))⟩,⟨An1,eI (([]:List (Int))++([]:List (Int)))⟩,⟨some (b1,0),[vb false]⟩,⟨some (b1,1),[sl An1 ((([]:List (Int))).length) ((([]:List (Int))++([]:List (Int))).length)]⟩,⟨some (b1,2),[sl An2 ((([]:List (Int))).length) ((([]:List (Int))++([]:List (Int))).length)]⟩,⟨some (b1,3),[sl An3 ((([]:List (Str))).length) ((([]:List (Str))++([]:List (Str))).length)]⟩,⟨some (b1,4),[vs ([]:Str)]⟩,⟨some (b1,5),[sl An4 ((([]:List (Str))).length) ((([]:List (Str))++([]:List (Str))).length)]⟩,⟨some (b1,6),[vs ([]:Str)]⟩,⟨some (b1,7),[vi 0]⟩,⟨some (b1,8),[vs ([]:Str)]⟩,⟨some (b1,9),[sl An5 ((([]:List (Str × Str × Int × Int × Int × Int))).length) ((([]:List (Str × Str × Int × Int × Int × Int))++([]:List (Str × Str × Int × Int × Int × Int))).length)]⟩,⟨some (b1,10),[vs ([]:Str)]⟩,⟨some (b1,11),[vi 0]⟩,⟨some (b1,12),[vi 0]⟩,⟨some (b1,13),[vi 0]⟩,⟨some (b1,14),[vi 0]⟩,⟨some (g_2.1,0),eI (r_2.2.1++([]:List (Int)))⟩,⟨some (g_2.2.1,0),eI (r_2.2.2.1++([]:List (Int)))⟩,⟨g_2.2.2.1,eS (r_2.2.2.2.1++([]:List (Str)))⟩,⟨g_2.2.2.2.1,eS (r_2.2.2.2.2.1++([]:List (Str)))⟩,⟨g_2.2.2.2.2,eF (fun p:Str × Str × Int × Int × Int × Int=>[vs p.1,vs p.2.1,vi p.2.2.1,vi p.2.2.2.1,vi p.2.2.2.2.1,vi p.2.2.2.2.2]) (r_2.2.2.2.2.2++([]:List (Str × Str × Int × Int × Int × Int)))⟩]) rfl (fun An1 An2 An3 An4 An5=>?_)
  refine TLn (E_sp (b:=b1) (o:=0) [5,5,5,5,5,5,5,5,5,5,5,5,5,5,5] [(1,[vb false]),(1,[sl An1 ((([]:List (Int))).length) ((([]:List (Int))++([]:List (Int))).length)]),(1,[sl An2 ((([]:List (Int))).length) ((([]:List (Int))++([]:List (Int))).length)]),(1,[sl An3 ((([]:List (Str))).length) ((([]:List (Str))++([]:List (Str))).length)]),(1,[vs ([]:Str)]),(1,[sl An4 ((([]:List (Str))).length) ((([]:List (Str))++([]:List (Str))).length)]),(1,[vs ([]:Str)]),(1,[vi 0]),(1,[vs ([]:Str)]),(1,[sl An5 ((([]:List (Str × Str × Int × Int × Int × Int))).length) ((([]:List (Str × Str × Int × Int × Int × Int))++([]:List (Str × Str × Int × Int × Int × Int))).length)]),(1,[vs ([]:Str)]),(1,[vi 0]),(1,[vi 0]),(1,[vi 0]),(1,[vi 0])] [(1,[vb false]),(1,[sl (some (g_2.1,0)) ((r_2.2.1).length) ((r_2.2.1++([]:List (Int))).length)]),(1,[sl (some (g_2.2.1,0)) ((r_2.2.2.1).length) ((r_2.2.2.1++([]:List (Int))).length)]),(1,[sl g_2.2.2.1 ((r_2.2.2.2.1).length) ((r_2.2.2.2.1++([]:List (Str))).length)]),(1,[vs ([]:Str)]),(1,[sl g_2.2.2.2.1 ((r_2.2.2.2.2.1).length) ((r_2.2.2.2.2.1++([]:List (Str))).length)]),(1,[vs r_2.1]),(1,[vi 0]),(1,[vs ([]:Str)]),(1,[sl g_2.2.2.2.2 ((r_2.2.2.2.2.2).length) ((r_2.2.2.2.2.2++([]:List (Str × Str × Int × Int × Int × Int))).length)]),(1,[vs ([]:Str)]),(1,[vi 1000]),(1,[vi 0]),(1,[vi 10]),(1,[vi 33290])] rfl inf26 ⟨rfl,rfl,rfl,rfl,rfl,rfl,rfl,rfl,rfl,rfl,rfl,rfl,rfl,rfl,rfl,trivial⟩ ⟨rfl,rfl,rfl,rfl,rfl,rfl,rfl,rfl,rfl,rfl,rfl,rfl,rfl,rfl,rfl,trivial⟩ ⟨(OneC.cons rfl OneC.nil),(OneC.cons rfl OneC.nil),(OneC.cons rfl OneC.nil),(OneC.cons rfl OneC.nil),(OneC.cons rfl OneC.nil),(OneC.cons rfl OneC.nil),(OneC.cons rfl OneC.nil),(OneC.cons rfl OneC.nil),(OneC.cons rfl OneC.nil),(OneC.cons rfl OneC.nil),(OneC.cons rfl OneC.nil),(OneC.cons rfl OneC.nil),(OneC.cons rfl OneC.nil),(OneC.cons rfl OneC.nil),(OneC.cons rfl OneC.nil),trivial⟩) (fun _=>?_)
  refine TL_nil (TX_next (TC.sub (m':=[(0,_),(1,_),(2,_),(7,_)]) ⟨rfl,rfl,rfl,rfl,trivial⟩ ?_))
  refine TC.pull (is:=[0,0,18,0,17,0,16,0,0,14,0,0,0,0,10,0,0,0,0,0]) (L':=[_,_,_,_,_,_,_,_,_,_,_,_,_,_,_,_,_,_,_,_]) rfl ?_
  refine TC_seq (TC_seq (TC_region (TVm ?_)))
  refine TL_nil (TX_next ?_)
  obtain ⟨j1,Hj,H⟩:=bind_elim H
  refine TC_join (Γ:=Nat × Nat × Adr × Adr × Adr) (fun gj1=>[(0,vi which),(1,vi x),(2,vb server),(7,ptr (some (b1,0)) 0)]) (fun gj1=>[⟨some (b1,0),[vb j1.1]⟩,⟨some (b1,1),[sl (some (gj1.1,0)) ((j1.2.1).length) ((j1.2.1++([]:List (Int))).length)]⟩,⟨some (gj1.1,0),eI (j1.2.1++([]:List (Int)))⟩,⟨some (b1,2),[sl (some (gj1.2.1,0)) ((j1.2.2.1).length) ((j1.2.2.1++([]:List (Int))).length)]⟩,⟨some (gj1.2.1,0),eI (j1.2.2.1++([]:List (Int)))⟩,⟨some (b1,3),[sl gj1.2.2.1 ((j1.2.2.2.1).length) ((j1.2.2.2.1++([]:List (Str))).length)]⟩,⟨gj1.2.2.1,eS (j1.2.2.2.1++([]:List (Str)))⟩,⟨some (b1,4),[vs j1.2.2.2.2.1]⟩,⟨some (b1,5),[sl gj1.2.2.2.1 ((j1.2.2.2.2.2.1).length) ((j1.2.2.2.2.2.1++([]:List (Str))).length)]⟩,⟨gj1.2.2.2.1,eS (j1.2.2.2.2.2.1++([]:List (Str)))⟩,⟨some (b1,6),[vs j1.2.2.2.2.2.2.1]⟩,⟨some (b1,7),[vi 0]⟩,⟨some (b1,8),[vs ([]:Str)]⟩,⟨some (b1,9),[sl gj1.2.2.2.2 ((j1.2.2.2.2.2.2.2).length) ((j1.2.2.2.2.2.2.2++([]:List (Str × Str × Int × Int × Int × Int))).length)]⟩,⟨gj1.2.2.2.2,eF (fun p:Str × Str × Int × Int × Int × Int=>[vs p.1,vs p.2.1,vi p.2.2.1,vi p.2.2.2.1,vi p.2.2.2.2.1,vi p.2.2.2.2.2]) (j1.2.2.2.2.2.2.2++([]:List (Str × Str × Int × Int × Int × Int)))⟩,⟨some (b1,10),[vs ([]:Str)]⟩,⟨some (b1,11),[vi 1000]⟩,⟨some (b1,12),[vi 0]⟩,⟨some (b1,13),[vi 10]⟩,⟨some (b1,14),[vi 33290]⟩]) ?_ ?_
  ·intro gj1
   refine TX_next (TC_seq (TC_region (TVm ?_)))
   refine TLv (V_bin rfl rfl (fun w=>andI w x 63)) ?_
   refine TLv (V_bin rfl rfl (fun w=>addI w 1 (iop (· &&& ·) x 63))) ?_
   refine TVa ?_
   obtain ⟨d1,hd1,H⟩:=ltt_elim H
   refine TLr 8 (congrArg vi hd1) ?_
   refine TL_nil (TX_next (TC_seq (TC_seq (TC_region (TVm ?_)))))
   refine TLv (V_conv rfl (fun w=>cvI64 w _ _ underlying53 (und3) .i64 which)) ?_
   refine TLv (V_bin rfl rfl (fun w=>rem64 w (BitVec.ofInt 64 which) 20#64 (by decide))) ?_
   refine TL_nil (TX_next (TC_block (TC_seq (TC_region (TLv (V_bin rfl rfl (fun w=>eql64 w ((BitVec.ofInt 64 which) % 20#64) 0#64)) ?_)))))
   refine TVa ?_
   obtain ⟨x1,hx1,H⟩:=ltt_elim H
   refine TLr 25 (congrArg vb hx1) ?_
   refine TL_nil (TX_next (TCb H (fun hc H=>?_) (fun hc H=>?_)))
   ·refine TC_region (TLv (V_fieldE rfl underlying26 rfl rfl inf22 rfl (v:=ptr (some (b1,1)) 0) rfl) ?_)
    refine TLn (E_store (j:=1) rfl rfl inf22 rfl rfl rfl (Nat.lt_succ_self 0) (cs':=[sl none 0 0]) rfl) (fun _=>?_)
    refine TL_nil (TX_block_normal (TX_next (TC_seq (TC_seq (TC_region (TVm ?_))))))
    refine TLv (V_conv rfl (fun w=>cvI64 w _ _ underlying53 (und3) .i64 which)) ?_
    refine TLv (V_bin rfl rfl (fun w=>rem64 w (BitVec.ofInt 64 which) 20#64 (by decide))) ?_
    refine TLv (V_bin rfl rfl (fun w=>eql64 w ((BitVec.ofInt 64 which) % 20#64) 17#64)) ?_
    refine TVm ?_
    obtain ⟨j2,Hj,H⟩:=bind_elim H
    refine TL_join (Γ:=Unit) (fun gj2=>[(2,vb server),(7,ptr (some (b1,0)) 0),(129,vb j2)]) (fun gj2=>[⟨some (b1,0),[vb j1.1]⟩,⟨some (b1,1),[sl none 0 0]⟩,⟨some (b1,2),[sl (some (gj1.2.1,0)) ((j1.2.2.1).length) ((j1.2.2.1++([]:List (Int))).length)]⟩,⟨some (gj1.2.1,0),eI (j1.2.2.1++([]:List (Int)))⟩,⟨some (b1,3),[sl gj1.2.2.1 ((j1.2.2.2.1).length) ((j1.2.2.2.1++([]:List (Str))).length)]⟩,⟨gj1.2.2.1,eS (j1.2.2.2.1++([]:List (Str)))⟩,⟨some (b1,4),[vs j1.2.2.2.2.1]⟩,⟨some (b1,5),[sl gj1.2.2.2.1 ((j1.2.2.2.2.2.1).length) ((j1.2.2.2.2.2.1++([]:List (Str))).length)]⟩,⟨gj1.2.2.2.1,eS (j1.2.2.2.2.2.1++([]:List (Str)))⟩,⟨some (b1,6),[vs j1.2.2.2.2.2.2.1]⟩,⟨some (b1,7),[vi 0]⟩,⟨some (b1,8),[vs ([]:Str)]⟩,⟨some (b1,9),[sl gj1.2.2.2.2 ((j1.2.2.2.2.2.2.2).length) ((j1.2.2.2.2.2.2.2++([]:List (Str × Str × Int × Int × Int × Int))).length)]⟩,⟨gj1.2.2.2.2,eF (fun p:Str × Str × Int × Int × Int × Int=>[vs p.1,vs p.2.1,vi p.2.2.1,vi p.2.2.2.1,vi p.2.2.2.2.1,vi p.2.2.2.2.2]) (j1.2.2.2.2.2.2.2++([]:List (Str × Str × Int × Int × Int × Int)))⟩,⟨some (b1,10),[vs ([]:Str)]⟩,⟨some (b1,11),[vi 1000]⟩,⟨some (b1,12),[vi 0]⟩,⟨some (b1,13),[vi 10]⟩,⟨some (b1,14),[vi 33290]⟩]) ?_ ?_
    ·intro gj2
     refine TX_next (TCb H (fun hc H=>?_) (fun hc H=>?_))
     ·refine TC_seq (TC_region (TLv (V_loadAgg (n:=15) (cs:=flat [(1,[vb j1.1]),(1,[sl none 0 0]),(1,[sl (some (gj1.2.1,0)) ((j1.2.2.1).length) ((j1.2.2.1++([]:List (Int))).length)]),(1,[sl gj1.2.2.1 ((j1.2.2.2.1).length) ((j1.2.2.2.1++([]:List (Str))).length)]),(1,[vs j1.2.2.2.2.1]),(1,[sl gj1.2.2.2.1 ((j1.2.2.2.2.2.1).length) ((j1.2.2.2.2.2.1++([]:List (Str))).length)]),(1,[vs j1.2.2.2.2.2.2.1]),(1,[vi 0]),(1,[vs ([]:Str)]),(1,[sl gj1.2.2.2.2 ((j1.2.2.2.2.2.2.2).length) ((j1.2.2.2.2.2.2.2++([]:List (Str × Str × Int × Int × Int × Int))).length)]),(1,[vs ([]:Str)]),(1,[vi 1000]),(1,[vi 0]),(1,[vi 10]),(1,[vi 33290])]) rfl (by simp) (SrcEnts (b:=b1) [(1,[vb j1.1]),(1,[sl none 0 0]),(1,[sl (some (gj1.2.1,0)) ((j1.2.2.1).length) ((j1.2.2.1++([]:List (Int))).length)]),(1,[sl gj1.2.2.1 ((j1.2.2.2.1).length) ((j1.2.2.2.1++([]:List (Str))).length)]),(1,[vs j1.2.2.2.2.1]),(1,[sl gj1.2.2.2.1 ((j1.2.2.2.2.2.1).length) ((j1.2.2.2.2.2.1++([]:List (Str))).length)]),(1,[vs j1.2.2.2.2.2.2.1]),(1,[vi 0]),(1,[vs ([]:Str)]),(1,[sl gj1.2.2.2.2 ((j1.2.2.2.2.2.2.2).length) ((j1.2.2.2.2.2.2.2++([]:List (Str × Str × Int × Int × Int × Int))).length)]),(1,[vs ([]:Str)]),(1,[vi 1000]),(1,[vi 0]),(1,[vi 10]),(1,[vi 33290])] 0 ⟨rfl,rfl,rfl,rfl,rfl,rfl,rfl,rfl,rfl,rfl,rfl,rfl,rfl,rfl,rfl,trivial⟩ (AllSrc.all (M:=ents b1 0 [(1,[vb j1.1]),(1,[sl none 0 0]),(1,[sl (some (gj1.2.1,0)) ((j1.2.2.1).length) ((j1.2.2.1++([]:List (Int))).length)]),(1,[sl gj1.2.2.1 ((j1.2.2.2.1).length) ((j1.2.2.2.1++([]:List (Str))).length)]),(1,[vs j1.2.2.2.2.1]),(1,[sl gj1.2.2.2.1 ((j1.2.2.2.2.2.1).length) ((j1.2.2.2.2.2.1++([]:List (Str))).length)]),(1,[vs j1.2.2.2.2.2.2.1]),(1,[vi 0]),(1,[vs ([]:Str)]),(1,[sl gj1.2.2.2.2 ((j1.2.2.2.2.2.2.2).length) ((j1.2.2.2.2.2.2.2++([]:List (Str × Str × Int × Int × Int × Int))).length)]),(1,[vs ([]:Str)]),(1,[vi 1000]),(1,[vi 0]),(1,[vi 10]),(1,[vi 33290])]) ⟨Src.own (j:=0) rfl,Src.own (j:=1) rfl,Src.own (j:=2) rfl,Src.own (j:=4) rfl,Src.own (j:=6) rfl,Src.own (j:=7) rfl,Src.own (j:=9) rfl,Src.own (j:=10) rfl,Src.own (j:=11) rfl,Src.own (j:=12) rfl,Src.own (j:=14) rfl,Src.own (j:=15) rfl,Src.own (j:=16) rfl,Src.own (j:=17) rfl,Src.own (j:=18) rfl,trivial⟩)) isAgg26 inf26 rfl (flat_len ⟨rfl,rfl,rfl,rfl,rfl,rfl,rfl,rfl,rfl,rfl,rfl,rfl,rfl,rfl,rfl,trivial⟩ rfl)) ?_))
      refine TL_none ?_
      obtain ⟨r_3,hr_3,H⟩:=bind_elim H
      refine TLe (E_c0 (F16_calls none 0 (some (gj1.2.1,0)) ((j1.2.2.1++([]:List (Int))).length) gj1.2.2.1 ((j1.2.2.2.1++([]:List (Str))).length) gj1.2.2.2.1 ((j1.2.2.2.2.2.1++([]:List (Str))).length) gj1.2.2.2.2 ((j1.2.2.2.2.2.2.2++([]:List (Str × Str × Int × Int × Int × Int))).length) j1.1 ([]:List (Int)) j1.2.2.1 j1.2.2.2.1 j1.2.2.2.2.1 j1.2.2.2.2.2.1 j1.2.2.2.2.2.2.1 0 ([]:Str) j1.2.2.2.2.2.2.2 ([]:Str) 1000 0 10 33290 (by first | exact Nat.le_refl _ | simp) (row_le _ _) (row_le _ _) (row_le _ _) (row_le _ _) r_3 hr_3) call16 ⟨(srcdE rfl),(srcdRow (.o 4)),(srcdRow (.o 6)),(srcdRow (.o 9)),(srcdRowF (s:=6) (fun _=>rfl) (.o 14)),trivial⟩) (fun g_3=>?_)
      refine TVm ?_
      refine TLv (V_bin rfl rfl (fun w=>eqlB w r_3 server underlying4)) ?_
      refine TVm ?_
      obtain ⟨j3,Hj,H⟩:=bind_elim H
      refine TL_join (Γ:=Unit) (fun gj3=>[(6,vb j3)]) (fun gj3=>[]) ?_ ?_
      ·intro gj3
       refine TX_next (TC_ret (TX_then_ret ?_))
       obtain rfl:=sj H
       exact TX1
      ·intro hJ
       replace H:=Hj
       refine TFb (d:=134) H (fun hc H=>?_) (fun hc H=>?_)
       ·obtain ⟨r_4,hr_4,H⟩:=bind_elim H
        refine TLu (E_call (Γ:=Nat × Nat × Adr × Adr × Adr) (val:=fun g=>aG [(1,[vb false]),(1,[sl (some (g.1,0)) ((r_4.2.1).length) ((r_4.2.1++([]:List (Int))).length)]),(1,[sl (some (g.2.1,0)) ((r_4.2.2.1).length) ((r_4.2.2.1++([]:List (Int))).length)]),(1,[sl g.2.2.1 ((r_4.2.2.2.1).length) ((r_4.2.2.2.1++([]:List (Str))).length)]),(1,[vs ([]:Str)]),(1,[sl g.2.2.2.1 ((r_4.2.2.2.2.1).length) ((r_4.2.2.2.2.1++([]:List (Str))).length)]),(1,[vs r_4.1]),(1,[vi 0]),(1,[vs ([]:Str)]),(1,[sl g.2.2.2.2 ((r_4.2.2.2.2.2).length) ((r_4.2.2.2.2.2++([]:List (Str × Str × Int × Int × Int × Int))).length)]),(1,[vs ([]:Str)]),(1,[vi 1000]),(1,[vi 0]),(1,[vi 10]),(1,[vi 33290])]) (mem:=fun g=>[⟨some (g.1,0),eI (r_4.2.1++([]:List (Int)))⟩,⟨some (g.2.1,0),eI (r_4.2.2.1++([]:List (Int)))⟩,⟨g.2.2.1,eS (r_4.2.2.2.1++([]:List (Str)))⟩,⟨g.2.2.2.1,eS (r_4.2.2.2.2.1++([]:List (Str)))⟩,⟨g.2.2.2.2,eF (fun p:Str × Str × Int × Int × Int × Int=>[vs p.1,vs p.2.1,vi p.2.2.1,vi p.2.2.2.1,vi p.2.2.2.2.1,vi p.2.2.2.2.2]) (r_4.2.2.2.2.2++([]:List (Str × Str × Int × Int × Int × Int)))⟩]) (vs:=[]) (Lin:=[]) (Ro:=[]) (is:=[]) rfl call24 (F24_calls r_4 hr_4) rfl trivial) (fun g_4=>?_)
        obtain ⟨r_5,hr_5,H⟩:=bind_elim H
        refine TLu (E_c0 (F16_calls (some (g_4.1,0)) ((r_4.2.1++([]:List (Int))).length) (some (g_4.2.1,0)) ((r_4.2.2.1++([]:List (Int))).length) g_4.2.2.1 ((r_4.2.2.2.1++([]:List (Str))).length) g_4.2.2.2.1 ((r_4.2.2.2.2.1++([]:List (Str))).length) g_4.2.2.2.2 ((r_4.2.2.2.2.2++([]:List (Str × Str × Int × Int × Int × Int))).length) false r_4.2.1 r_4.2.2.1 r_4.2.2.2.1 ([]:Str) r_4.2.2.2.2.1 r_4.1 0 ([]:Str) r_4.2.2.2.2.2 ([]:Str) 1000 0 10 33290 (row_le _ _) (row_le _ _) (row_le _ _) (row_le _ _) (row_le _ _) r_5 hr_5) call16 ⟨(srcdRow (.o 0)),(srcdRow (.o 1)),(srcdRow (.o 2)),(srcdRow (.o 3)),(srcdRowF (s:=6) (fun _=>rfl) (.o 4)),trivial⟩) (fun g_5=>?_)
        refine TVt ?_
        refine TVm ?_
        refine TFb (d:=138) H (fun hc H=>?_) (fun hc H=>?_)
        ·obtain ⟨r_6,hr_6,H⟩:=bind_elim H
         refine TLu (E_call (Γ:=Nat × Nat × Nat × Adr × Adr) (val:=fun g=>aG [(1,[vb true]),(1,[sl (some (g.1,0)) ((r_6.2.1).length) ((r_6.2.1++([]:List (Int))).length)]),(1,[sl (some (g.2.1,0)) ((r_6.2.2.1).length) ((r_6.2.2.1++([]:List (Int))).length)]),(1,[sl (some (g.2.2.1,0)) ((r_6.2.2.2.1).length) ((r_6.2.2.2.1++([]:List (Str))).length)]),(1,[vs r_6.1]),(1,[sl g.2.2.2.1 ((r_6.2.2.2.2.1).length) ((r_6.2.2.2.2.1++([]:List (Str))).length)]),(1,[vs ([]:Str)]),(1,[vi 0]),(1,[vs ([]:Str)]),(1,[sl g.2.2.2.2 ((r_6.2.2.2.2.2).length) ((r_6.2.2.2.2.2++([]:List (Str × Str × Int × Int × Int × Int))).length)]),(1,[vs ([]:Str)]),(1,[vi 1000]),(1,[vi 0]),(1,[vi 10]),(1,[vi 33290])]) (mem:=fun g=>[⟨some (g.1,0),eI (r_6.2.1++([]:List (Int)))⟩,⟨some (g.2.1,0),eI (r_6.2.2.1++([]:List (Int)))⟩,⟨some (g.2.2.1,0),eS (r_6.2.2.2.1++([]:List (Str)))⟩,⟨g.2.2.2.1,eS (r_6.2.2.2.2.1++([]:List (Str)))⟩,⟨g.2.2.2.2,eF (fun p:Str × Str × Int × Int × Int × Int=>[vs p.1,vs p.2.1,vi p.2.2.1,vi p.2.2.2.1,vi p.2.2.2.2.1,vi p.2.2.2.2.2]) (r_6.2.2.2.2.2++([]:List (Str × Str × Int × Int × Int × Int)))⟩]) (vs:=[]) (Lin:=[]) (Ro:=[]) (is:=[]) rfl call25 (F25_calls r_6 hr_6) rfl trivial) (fun g_6=>?_)
         obtain ⟨r_7,hr_7,H⟩:=bind_elim H
         refine TLu (E_c0 (F16_calls (some (g_6.1,0)) ((r_6.2.1++([]:List (Int))).length) (some (g_6.2.1,0)) ((r_6.2.2.1++([]:List (Int))).length) (some (g_6.2.2.1,0)) ((r_6.2.2.2.1++([]:List (Str))).length) g_6.2.2.2.1 ((r_6.2.2.2.2.1++([]:List (Str))).length) g_6.2.2.2.2 ((r_6.2.2.2.2.2++([]:List (Str × Str × Int × Int × Int × Int))).length) true r_6.2.1 r_6.2.2.1 r_6.2.2.2.1 r_6.1 r_6.2.2.2.2.1 ([]:Str) 0 ([]:Str) r_6.2.2.2.2.2 ([]:Str) 1000 0 10 33290 (row_le _ _) (row_le _ _) (row_le _ _) (row_le _ _) (row_le _ _) r_7 hr_7) call16 ⟨(srcdRow (.o 0)),(srcdRow (.o 1)),(srcdRow (.o 2)),(srcdRow (.o 3)),(srcdRowF (s:=6) (fun _=>rfl) (.o 4)),trivial⟩) (fun g_7=>?_)
         refine TVt ?_
         refine TVa ?_
         refine TL_nil ?_
         obtain rfl:=sj H
         exact TXj [] (hJ ())
        ·refine TLs ?_
         refine TLs ?_
         refine TVf ?_
         refine TVa ?_
         refine TL_nil ?_
         obtain rfl:=sj H
         exact TXj [] (hJ ())
       ·refine TLs ?_
        refine TLs ?_
        refine TVf ?_
        refine TVm ?_
        refine TLs ?_
        refine TLs ?_
        refine TVf ?_
        refine TVa ?_
        refine TL_nil ?_
        obtain rfl:=sj H
        exact TXj [] (hJ ())
     ·refine TC_skip (TX_next (TC_seq (TC_region (TLv (V_loadAgg (n:=15) (cs:=flat [(1,[vb j1.1]),(1,[sl none 0 0]),(1,[sl (some (gj1.2.1,0)) ((j1.2.2.1).length) ((j1.2.2.1++([]:List (Int))).length)]),(1,[sl gj1.2.2.1 ((j1.2.2.2.1).length) ((j1.2.2.2.1++([]:List (Str))).length)]),(1,[vs j1.2.2.2.2.1]),(1,[sl gj1.2.2.2.1 ((j1.2.2.2.2.2.1).length) ((j1.2.2.2.2.2.1++([]:List (Str))).length)]),(1,[vs j1.2.2.2.2.2.2.1]),(1,[vi 0]),(1,[vs ([]:Str)]),(1,[sl gj1.2.2.2.2 ((j1.2.2.2.2.2.2.2).length) ((j1.2.2.2.2.2.2.2++([]:List (Str × Str × Int × Int × Int × Int))).length)]),(1,[vs ([]:Str)]),(1,[vi 1000]),(1,[vi 0]),(1,[vi 10]),(1,[vi 33290])]) rfl (by simp) (SrcEnts (b:=b1) [(1,[vb j1.1]),(1,[sl none 0 0]),(1,[sl (some (gj1.2.1,0)) ((j1.2.2.1).length) ((j1.2.2.1++([]:List (Int))).length)]),(1,[sl gj1.2.2.1 ((j1.2.2.2.1).length) ((j1.2.2.2.1++([]:List (Str))).length)]),(1,[vs j1.2.2.2.2.1]),(1,[sl gj1.2.2.2.1 ((j1.2.2.2.2.2.1).length) ((j1.2.2.2.2.2.1++([]:List (Str))).length)]),(1,[vs j1.2.2.2.2.2.2.1]),(1,[vi 0]),(1,[vs ([]:Str)]),(1,[sl gj1.2.2.2.2 ((j1.2.2.2.2.2.2.2).length) ((j1.2.2.2.2.2.2.2++([]:List (Str × Str × Int × Int × Int × Int))).length)]),(1,[vs ([]:Str)]),(1,[vi 1000]),(1,[vi 0]),(1,[vi 10]),(1,[vi 33290])] 0 ⟨rfl,rfl,rfl,rfl,rfl,rfl,rfl,rfl,rfl,rfl,rfl,rfl,rfl,rfl,rfl,trivial⟩ (AllSrc.all (M:=ents b1 0 [(1,[vb j1.1]),(1,[sl none 0 0]),(1,[sl (some (gj1.2.1,0)) ((j1.2.2.1).length) ((j1.2.2.1++([]:List (Int))).length)]),(1,[sl gj1.2.2.1 ((j1.2.2.2.1).length) ((j1.2.2.2.1++([]:List (Str))).length)]),(1,[vs j1.2.2.2.2.1]),(1,[sl gj1.2.2.2.1 ((j1.2.2.2.2.2.1).length) ((j1.2.2.2.2.2.1++([]:List (Str))).length)]),(1,[vs j1.2.2.2.2.2.2.1]),(1,[vi 0]),(1,[vs ([]:Str)]),(1,[sl gj1.2.2.2.2 ((j1.2.2.2.2.2.2.2).length) ((j1.2.2.2.2.2.2.2++([]:List (Str × Str × Int × Int × Int × Int))).length)]),(1,[vs ([]:Str)]),(1,[vi 1000]),(1,[vi 0]),(1,[vi 10]),(1,[vi 33290])]) ⟨Src.own (j:=0) rfl,Src.own (j:=1) rfl,Src.own (j:=2) rfl,Src.own (j:=4) rfl,Src.own (j:=6) rfl,Src.own (j:=7) rfl,Src.own (j:=9) rfl,Src.own (j:=10) rfl,Src.own (j:=11) rfl,Src.own (j:=12) rfl,Src.own (j:=14) rfl,Src.own (j:=15) rfl,Src.own (j:=16) rfl,Src.own (j:=17) rfl,Src.own (j:=18) rfl,trivial⟩)) isAgg26 inf26 rfl (flat_len ⟨rfl,rfl,rfl,rfl,rfl,rfl,rfl,rfl,rfl,rfl,rfl,rfl,rfl,rfl,rfl,trivial⟩ rfl)) ?_))))
      refine TL_none ?_
      obtain ⟨r_8,hr_8,H⟩:=bind_elim H
      refine TLe (E_c0 (F16_calls none 0 (some (gj1.2.1,0)) ((j1.2.2.1++([]:List (Int))).length) gj1.2.2.1 ((j1.2.2.2.1++([]:List (Str))).length) gj1.2.2.2.1 ((j1.2.2.2.2.2.1++([]:List (Str))).length) gj1.2.2.2.2 ((j1.2.2.2.2.2.2.2++([]:List (Str × Str × Int × Int × Int × Int))).length) j1.1 ([]:List (Int)) j1.2.2.1 j1.2.2.2.1 j1.2.2.2.2.1 j1.2.2.2.2.2.1 j1.2.2.2.2.2.2.1 0 ([]:Str) j1.2.2.2.2.2.2.2 ([]:Str) 1000 0 10 33290 (by first | exact Nat.le_refl _ | simp) (row_le _ _) (row_le _ _) (row_le _ _) (row_le _ _) r_8 hr_8) call16 ⟨(srcdE rfl),(srcdRow (.o 4)),(srcdRow (.o 6)),(srcdRow (.o 9)),(srcdRowF (s:=6) (fun _=>rfl) (.o 14)),trivial⟩) (fun g_8=>?_)
      refine TLv (V_un rfl (fun w=>notB w r_8)) ?_
      refine TVm ?_
      refine TFb (d:=145) H (fun hc H=>?_) (fun hc H=>?_)
      ·obtain ⟨r_9,hr_9,H⟩:=bind_elim H
       refine TLu (E_call (Γ:=Nat × Nat × Adr × Adr × Adr) (val:=fun g=>aG [(1,[vb false]),(1,[sl (some (g.1,0)) ((r_9.2.1).length) ((r_9.2.1++([]:List (Int))).length)]),(1,[sl (some (g.2.1,0)) ((r_9.2.2.1).length) ((r_9.2.2.1++([]:List (Int))).length)]),(1,[sl g.2.2.1 ((r_9.2.2.2.1).length) ((r_9.2.2.2.1++([]:List (Str))).length)]),(1,[vs ([]:Str)]),(1,[sl g.2.2.2.1 ((r_9.2.2.2.2.1).length) ((r_9.2.2.2.2.1++([]:List (Str))).length)]),(1,[vs r_9.1]),(1,[vi 0]),(1,[vs ([]:Str)]),(1,[sl g.2.2.2.2 ((r_9.2.2.2.2.2).length) ((r_9.2.2.2.2.2++([]:List (Str × Str × Int × Int × Int × Int))).length)]),(1,[vs ([]:Str)]),(1,[vi 1000]),(1,[vi 0]),(1,[vi 10]),(1,[vi 33290])]) (mem:=fun g=>[⟨some (g.1,0),eI (r_9.2.1++([]:List (Int)))⟩,⟨some (g.2.1,0),eI (r_9.2.2.1++([]:List (Int)))⟩,⟨g.2.2.1,eS (r_9.2.2.2.1++([]:List (Str)))⟩,⟨g.2.2.2.1,eS (r_9.2.2.2.2.1++([]:List (Str)))⟩,⟨g.2.2.2.2,eF (fun p:Str × Str × Int × Int × Int × Int=>[vs p.1,vs p.2.1,vi p.2.2.1,vi p.2.2.2.1,vi p.2.2.2.2.1,vi p.2.2.2.2.2]) (r_9.2.2.2.2.2++([]:List (Str × Str × Int × Int × Int × Int)))⟩]) (vs:=[]) (Lin:=[]) (Ro:=[]) (is:=[]) rfl call24 (F24_calls r_9 hr_9) rfl trivial) (fun g_9=>?_)
       obtain ⟨r_10,hr_10,H⟩:=bind_elim H
       refine TLu (E_c0 (F16_calls (some (g_9.1,0)) ((r_9.2.1++([]:List (Int))).length) (some (g_9.2.1,0)) ((r_9.2.2.1++([]:List (Int))).length) g_9.2.2.1 ((r_9.2.2.2.1++([]:List (Str))).length) g_9.2.2.2.1 ((r_9.2.2.2.2.1++([]:List (Str))).length) g_9.2.2.2.2 ((r_9.2.2.2.2.2++([]:List (Str × Str × Int × Int × Int × Int))).length) false r_9.2.1 r_9.2.2.1 r_9.2.2.2.1 ([]:Str) r_9.2.2.2.2.1 r_9.1 0 ([]:Str) r_9.2.2.2.2.2 ([]:Str) 1000 0 10 33290 (row_le _ _) (row_le _ _) (row_le _ _) (row_le _ _) (row_le _ _) r_10 hr_10) call16 ⟨(srcdRow (.o 0)),(srcdRow (.o 1)),(srcdRow (.o 2)),(srcdRow (.o 3)),(srcdRowF (s:=6) (fun _=>rfl) (.o 4)),trivial⟩) (fun g_10=>?_)
       refine TVt ?_
       refine TVm ?_
       refine TFb (d:=149) H (fun hc H=>?_) (fun hc H=>?_)
       ·obtain ⟨r_11,hr_11,H⟩:=bind_elim H
        refine TLu (E_call (Γ:=Nat × Nat × Nat × Adr × Adr) (val:=fun g=>aG [(1,[vb true]),(1,[sl (some (g.1,0)) ((r_11.2.1).length) ((r_11.2.1++([]:List (Int))).length)]),(1,[sl (some (g.2.1,0)) ((r_11.2.2.1).length) ((r_11.2.2.1++([]:List (Int))).length)]),(1,[sl (some (g.2.2.1,0)) ((r_11.2.2.2.1).length) ((r_11.2.2.2.1++([]:List (Str))).length)]),(1,[vs r_11.1]),(1,[sl g.2.2.2.1 ((r_11.2.2.2.2.1).length) ((r_11.2.2.2.2.1++([]:List (Str))).length)]),(1,[vs ([]:Str)]),(1,[vi 0]),(1,[vs ([]:Str)]),(1,[sl g.2.2.2.2 ((r_11.2.2.2.2.2).length) ((r_11.2.2.2.2.2++([]:List (Str × Str × Int × Int × Int × Int))).length)]),(1,[vs ([]:Str)]),(1,[vi 1000]),(1,[vi 0]),(1,[vi 10]),(1,[vi 33290])]) (mem:=fun g=>[⟨some (g.1,0),eI (r_11.2.1++([]:List (Int)))⟩,⟨some (g.2.1,0),eI (r_11.2.2.1++([]:List (Int)))⟩,⟨some (g.2.2.1,0),eS (r_11.2.2.2.1++([]:List (Str)))⟩,⟨g.2.2.2.1,eS (r_11.2.2.2.2.1++([]:List (Str)))⟩,⟨g.2.2.2.2,eF (fun p:Str × Str × Int × Int × Int × Int=>[vs p.1,vs p.2.1,vi p.2.2.1,vi p.2.2.2.1,vi p.2.2.2.2.1,vi p.2.2.2.2.2]) (r_11.2.2.2.2.2++([]:List (Str × Str × Int × Int × Int × Int)))⟩]) (vs:=[]) (Lin:=[]) (Ro:=[]) (is:=[]) rfl call25 (F25_calls r_11 hr_11) rfl trivial) (fun g_11=>?_)
        obtain ⟨r_12,hr_12,H⟩:=bind_elim H
        refine TLu (E_c0 (F16_calls (some (g_11.1,0)) ((r_11.2.1++([]:List (Int))).length) (some (g_11.2.1,0)) ((r_11.2.2.1++([]:List (Int))).length) (some (g_11.2.2.1,0)) ((r_11.2.2.2.1++([]:List (Str))).length) g_11.2.2.2.1 ((r_11.2.2.2.2.1++([]:List (Str))).length) g_11.2.2.2.2 ((r_11.2.2.2.2.2++([]:List (Str × Str × Int × Int × Int × Int))).length) true r_11.2.1 r_11.2.2.1 r_11.2.2.2.1 r_11.1 r_11.2.2.2.2.1 ([]:Str) 0 ([]:Str) r_11.2.2.2.2.2 ([]:Str) 1000 0 10 33290 (row_le _ _) (row_le _ _) (row_le _ _) (row_le _ _) (row_le _ _) r_12 hr_12) call16 ⟨(srcdRow (.o 0)),(srcdRow (.o 1)),(srcdRow (.o 2)),(srcdRow (.o 3)),(srcdRowF (s:=6) (fun _=>rfl) (.o 4)),trivial⟩) (fun g_12=>?_)
        refine TVt ?_
        refine TVa ?_
        refine TL_nil (TX_next (TC.sub (m':=[(6,_)]) ⟨rfl,trivial⟩ ?_))
        refine TC.pull (is:=[]) (L':=[]) rfl ?_
        refine TC_ret ?_
        obtain rfl:=sj H
        exact TX1
       ·refine TLs ?_
        refine TLs ?_
        refine TVf ?_
        refine TVa ?_
        refine TL_nil (TX_next (TC.sub (m':=[(6,_)]) ⟨rfl,trivial⟩ ?_))
        refine TC.pull (is:=[]) (L':=[]) rfl ?_
        refine TC_ret ?_
        obtain rfl:=sj H
        exact TX1
      ·refine TLs ?_
       refine TLs ?_
       refine TVf ?_
       refine TVm ?_
       refine TLs ?_
       refine TLs ?_
       refine TVf ?_
       refine TVa ?_
       refine TL_nil (TX_next (TC_ret ?_))
       obtain rfl:=sj H
       exact TX1
    ·intro hJ
     replace H:=Hj
     refine TFd (d:=125) H (fun hc H=>?_) (fun hc H=>?_)
     ·refine TLw (V_move rfl) ?_
      refine TLw (V_bin rfl rfl (fun w=>andI w d1 31)) ?_
      refine TLw (V_bin rfl rfl (fun w=>eqlI w (iop (· &&& ·) d1 31) 0)) ?_
      refine TVt ?_
      refine TL_nil ?_
      obtain rfl:=sj H
      exact TXj [0,0,1,1,1,1,1,1,1,1,1,1,1,1,1,1,1,1,1] (hJ ())
     ·refine TLs ?_
      refine TLs ?_
      refine TLs ?_
      refine TVf ?_
      refine TL_nil ?_
      obtain rfl:=sj H
      exact TXj [0,0,1,1,1,1,1,1,1,1,1,1,1,1,1,1,1,1,1] (hJ ())
   ·refine TC_seq (TC_region (TLv (V_bin rfl rfl (fun w=>eql64 w ((BitVec.ofInt 64 which) % 20#64) 1#64)) ?_))
    refine TVa ?_
    obtain ⟨x2,hx2,H⟩:=ltt_elim H
    refine TLr 28 (congrArg vb hx2) ?_
    refine TL_nil (TX_next (TCb H (fun hc H=>?_) (fun hc H=>?_)))
    ·refine TC_region (TLe (E_buildSlice (pv:=[(0,vi 4865),(1,vi 4865)]) rfl rfl underlying22 inf3 (s:=1) rfl zer3 rfl rfl rfl (cs:=eI ([4865,4865]:List (Int))) (by kernel_rfl)) (fun b2=>?_))
     refine TLv (V_fieldE rfl underlying26 rfl rfl inf22 rfl (v:=ptr (some (b1,1)) 0) rfl) ?_
     refine TLn (E_store (j:=2) rfl rfl inf22 rfl rfl rfl (Nat.lt_succ_self 0) (cs':=[sl (some (b2,0)) 2 2]) rfl) (fun _=>?_)
     refine TL_reE (j:=0) (A:=some (b2,0)) (cs:=eI ([4865,4865]:List (Int))) (cs':=eI (([4865,4865]:List (Int))++([]:List (Int)))) rfl (congrArg (eI) (List.append_nil _).symm) ?_
     refine TL_reE (j:=2) (A:=some (b1,1)) (cs:=[sl (some (b2,0)) 2 2]) (cs':=[sl (some (b2,0)) ((([4865,4865]:List (Int))).length) ((([4865,4865]:List (Int))++([]:List (Int))).length)]) rfl (congrArg (fun z=>[z]) (sl_row rfl)) ?_
     refine TL_nil (TX_block_normal (TX_next (TC_seq (TC_seq (TC_region (TVm ?_))))))
     refine TLv (V_conv rfl (fun w=>cvI64 w _ _ underlying53 (und3) .i64 which)) ?_
     refine TLv (V_bin rfl rfl (fun w=>rem64 w (BitVec.ofInt 64 which) 20#64 (by decide))) ?_
     refine TLv (V_bin rfl rfl (fun w=>eql64 w ((BitVec.ofInt 64 which) % 20#64) 17#64)) ?_
     refine TVm ?_
     obtain ⟨j4,Hj,H⟩:=bind_elim H
     refine TL_join (Γ:=Unit) (fun gj4=>[(2,vb server),(7,ptr (some (b1,0)) 0),(129,vb j4)]) (fun gj4=>[⟨some (b1,0),[vb j1.1]⟩,⟨some (b1,1),[sl (some (b2,0)) ((([4865,4865]:List (Int))).length) ((([4865,4865]:List (Int))++([]:List (Int))).length)]⟩,⟨some (b2,0),eI (([4865,4865]:List (Int))++([]:List (Int)))⟩,⟨some (b1,2),[sl (some (gj1.2.1,0)) ((j1.2.2.1).length) ((j1.2.2.1++([]:List (Int))).length)]⟩,⟨some (gj1.2.1,0),eI (j1.2.2.1++([]:List (Int)))⟩,⟨some (b1,3),[sl gj1.2.2.1 ((j1.2.2.2.1).length) ((j1.2.2.2.1++([]:List (Str))).length)]⟩,⟨gj1.2.2.1,eS (j1.2.2.2.1++([]:List (Str)))⟩,⟨some (b1,4),[vs j1.2.2.2.2.1]⟩,⟨some (b1,5),[sl gj1.2.2.2.1 ((j1.2.2.2.2.2.1).length) ((j1.2.2.2.2.2.1++([]:List (Str))).length)]⟩,⟨gj1.2.2.2.1,eS (j1.2.2.2.2.2.1++([]:List (Str)))⟩,⟨some (b1,6),[vs j1.2.2.2.2.2.2.1]⟩,⟨some (b1,7),[vi 0]⟩,⟨some (b1,8),[vs ([]:Str)]⟩,⟨some (b1,9),[sl gj1.2.2.2.2 ((j1.2.2.2.2.2.2.2).length) ((j1.2.2.2.2.2.2.2++([]:List (Str × Str × Int × Int × Int × Int))).length)]⟩,⟨gj1.2.2.2.2,eF (fun p:Str × Str × Int × Int × Int × Int=>[vs p.1,vs p.2.1,vi p.2.2.1,vi p.2.2.2.1,vi p.2.2.2.2.1,vi p.2.2.2.2.2]) (j1.2.2.2.2.2.2.2++([]:List (Str × Str × Int × Int × Int × Int)))⟩,⟨some (b1,10),[vs ([]:Str)]⟩,⟨some (b1,11),[vi 1000]⟩,⟨some (b1,12),[vi 0]⟩,⟨some (b1,13),[vi 10]⟩,⟨some (b1,14),[vi 33290]⟩]) ?_ ?_
     ·intro gj4
      refine TX_next (TCb H (fun hc H=>?_) (fun hc H=>?_))
      ·refine TC_seq (TC_region (TLv (V_loadAgg (n:=15) (cs:=flat [(1,[vb j1.1]),(1,[sl (some (b2,0)) ((([4865,4865]:List (Int))).length) ((([4865,4865]:List (Int))++([]:List (Int))).length)]),(1,[sl (some (gj1.2.1,0)) ((j1.2.2.1).length) ((j1.2.2.1++([]:List (Int))).length)]),(1,[sl gj1.2.2.1 ((j1.2.2.2.1).length) ((j1.2.2.2.1++([]:List (Str))).length)]),(1,[vs j1.2.2.2.2.1]),(1,[sl gj1.2.2.2.1 ((j1.2.2.2.2.2.1).length) ((j1.2.2.2.2.2.1++([]:List (Str))).length)]),(1,[vs j1.2.2.2.2.2.2.1]),(1,[vi 0]),(1,[vs ([]:Str)]),(1,[sl gj1.2.2.2.2 ((j1.2.2.2.2.2.2.2).length) ((j1.2.2.2.2.2.2.2++([]:List (Str × Str × Int × Int × Int × Int))).length)]),(1,[vs ([]:Str)]),(1,[vi 1000]),(1,[vi 0]),(1,[vi 10]),(1,[vi 33290])]) rfl (by simp) (SrcEnts (b:=b1) [(1,[vb j1.1]),(1,[sl (some (b2,0)) ((([4865,4865]:List (Int))).length) ((([4865,4865]:List (Int))++([]:List (Int))).length)]),(1,[sl (some (gj1.2.1,0)) ((j1.2.2.1).length) ((j1.2.2.1++([]:List (Int))).length)]),(1,[sl gj1.2.2.1 ((j1.2.2.2.1).length) ((j1.2.2.2.1++([]:List (Str))).length)]),(1,[vs j1.2.2.2.2.1]),(1,[sl gj1.2.2.2.1 ((j1.2.2.2.2.2.1).length) ((j1.2.2.2.2.2.1++([]:List (Str))).length)]),(1,[vs j1.2.2.2.2.2.2.1]),(1,[vi 0]),(1,[vs ([]:Str)]),(1,[sl gj1.2.2.2.2 ((j1.2.2.2.2.2.2.2).length) ((j1.2.2.2.2.2.2.2++([]:List (Str × Str × Int × Int × Int × Int))).length)]),(1,[vs ([]:Str)]),(1,[vi 1000]),(1,[vi 0]),(1,[vi 10]),(1,[vi 33290])] 0 ⟨rfl,rfl,rfl,rfl,rfl,rfl,rfl,rfl,rfl,rfl,rfl,rfl,rfl,rfl,rfl,trivial⟩ (AllSrc.all (M:=ents b1 0 [(1,[vb j1.1]),(1,[sl (some (b2,0)) ((([4865,4865]:List (Int))).length) ((([4865,4865]:List (Int))++([]:List (Int))).length)]),(1,[sl (some (gj1.2.1,0)) ((j1.2.2.1).length) ((j1.2.2.1++([]:List (Int))).length)]),(1,[sl gj1.2.2.1 ((j1.2.2.2.1).length) ((j1.2.2.2.1++([]:List (Str))).length)]),(1,[vs j1.2.2.2.2.1]),(1,[sl gj1.2.2.2.1 ((j1.2.2.2.2.2.1).length) ((j1.2.2.2.2.2.1++([]:List (Str))).length)]),(1,[vs j1.2.2.2.2.2.2.1]),(1,[vi 0]),(1,[vs ([]:Str)]),(1,[sl gj1.2.2.2.2 ((j1.2.2.2.2.2.2.2).length) ((j1.2.2.2.2.2.2.2++([]:List (Str × Str × Int × Int × Int × Int))).length)]),(1,[vs ([]:Str)]),(1,[vi 1000]),(1,[vi 0]),(1,[vi 10]),(1,[vi 33290])]) ⟨Src.own (j:=0) rfl,Src.own (j:=1) rfl,Src.own (j:=3) rfl,Src.own (j:=5) rfl,Src.own (j:=7) rfl,Src.own (j:=8) rfl,Src.own (j:=10) rfl,Src.own (j:=11) rfl,Src.own (j:=12) rfl,Src.own (j:=13) rfl,Src.own (j:=15) rfl,Src.own (j:=16) rfl,Src.own (j:=17) rfl,Src.own (j:=18) rfl,Src.own (j:=19) rfl,trivial⟩)) isAgg26 inf26 rfl (flat_len ⟨rfl,rfl,rfl,rfl,rfl,rfl,rfl,rfl,rfl,rfl,rfl,rfl,rfl,rfl,rfl,trivial⟩ rfl)) ?_))
       obtain ⟨r_13,hr_13,H⟩:=bind_elim H
       refine TLe (E_c0 (F16_calls (some (b2,0)) ((([4865,4865]:List (Int))++([]:List (Int))).length) (some (gj1.2.1,0)) ((j1.2.2.1++([]:List (Int))).length) gj1.2.2.1 ((j1.2.2.2.1++([]:List (Str))).length) gj1.2.2.2.1 ((j1.2.2.2.2.2.1++([]:List (Str))).length) gj1.2.2.2.2 ((j1.2.2.2.2.2.2.2++([]:List (Str × Str × Int × Int × Int × Int))).length) j1.1 ([4865,4865]:List (Int)) j1.2.2.1 j1.2.2.2.1 j1.2.2.2.2.1 j1.2.2.2.2.2.1 j1.2.2.2.2.2.2.1 0 ([]:Str) j1.2.2.2.2.2.2.2 ([]:Str) 1000 0 10 33290 (row_le _ _) (row_le _ _) (row_le _ _) (row_le _ _) (row_le _ _) r_13 hr_13) call16 ⟨(srcdRow (.o 2)),(srcdRow (.o 4)),(srcdRow (.o 6)),(srcdRow (.o 9)),(srcdRowF (s:=6) (fun _=>rfl) (.o 14)),trivial⟩) (fun g_13=>?_)
       refine TVm ?_
       refine TLv (V_bin rfl rfl (fun w=>eqlB w r_13 server underlying4)) ?_
       refine TVm ?_
       obtain ⟨j5,Hj,H⟩:=bind_elim H
       refine TL_join (Γ:=Unit) (fun gj5=>[(6,vb j5)]) (fun gj5=>[]) ?_ ?_
       ·intro gj5
        refine TX_next (TC_ret (TX_then_ret ?_))
        obtain rfl:=sj H
        exact TX1
       ·intro hJ
        replace H:=Hj
        refine TFb (d:=134) H (fun hc H=>?_) (fun hc H=>?_)
        ·obtain ⟨r_14,hr_14,H⟩:=bind_elim H
         refine TLu (E_call (Γ:=Nat × Nat × Adr × Adr × Adr) (val:=fun g=>aG [(1,[vb false]),(1,[sl (some (g.1,0)) ((r_14.2.1).length) ((r_14.2.1++([]:List (Int))).length)]),(1,[sl (some (g.2.1,0)) ((r_14.2.2.1).length) ((r_14.2.2.1++([]:List (Int))).length)]),(1,[sl g.2.2.1 ((r_14.2.2.2.1).length) ((r_14.2.2.2.1++([]:List (Str))).length)]),(1,[vs ([]:Str)]),(1,[sl g.2.2.2.1 ((r_14.2.2.2.2.1).length) ((r_14.2.2.2.2.1++([]:List (Str))).length)]),(1,[vs r_14.1]),(1,[vi 0]),(1,[vs ([]:Str)]),(1,[sl g.2.2.2.2 ((r_14.2.2.2.2.2).length) ((r_14.2.2.2.2.2++([]:List (Str × Str × Int × Int × Int × Int))).length)]),(1,[vs ([]:Str)]),(1,[vi 1000]),(1,[vi 0]),(1,[vi 10]),(1,[vi 33290])]) (mem:=fun g=>[⟨some (g.1,0),eI (r_14.2.1++([]:List (Int)))⟩,⟨some (g.2.1,0),eI (r_14.2.2.1++([]:List (Int)))⟩,⟨g.2.2.1,eS (r_14.2.2.2.1++([]:List (Str)))⟩,⟨g.2.2.2.1,eS (r_14.2.2.2.2.1++([]:List (Str)))⟩,⟨g.2.2.2.2,eF (fun p:Str × Str × Int × Int × Int × Int=>[vs p.1,vs p.2.1,vi p.2.2.1,vi p.2.2.2.1,vi p.2.2.2.2.1,vi p.2.2.2.2.2]) (r_14.2.2.2.2.2++([]:List (Str × Str × Int × Int × Int × Int)))⟩]) (vs:=[]) (Lin:=[]) (Ro:=[]) (is:=[]) rfl call24 (F24_calls r_14 hr_14) rfl trivial) (fun g_14=>?_)
         obtain ⟨r_15,hr_15,H⟩:=bind_elim H
         refine TLu (E_c0 (F16_calls (some (g_14.1,0)) ((r_14.2.1++([]:List (Int))).length) (some (g_14.2.1,0)) ((r_14.2.2.1++([]:List (Int))).length) g_14.2.2.1 ((r_14.2.2.2.1++([]:List (Str))).length) g_14.2.2.2.1 ((r_14.2.2.2.2.1++([]:List (Str))).length) g_14.2.2.2.2 ((r_14.2.2.2.2.2++([]:List (Str × Str × Int × Int × Int × Int))).length) false r_14.2.1 r_14.2.2.1 r_14.2.2.2.1 ([]:Str) r_14.2.2.2.2.1 r_14.1 0 ([]:Str) r_14.2.2.2.2.2 ([]:Str) 1000 0 10 33290 (row_le _ _) (row_le _ _) (row_le _ _) (row_le _ _) (row_le _ _) r_15 hr_15) call16 ⟨(srcdRow (.o 0)),(srcdRow (.o 1)),(srcdRow (.o 2)),(srcdRow (.o 3)),(srcdRowF (s:=6) (fun _=>rfl) (.o 4)),trivial⟩) (fun g_15=>?_)
         refine TVt ?_
         refine TVm ?_
         refine TFb (d:=138) H (fun hc H=>?_) (fun hc H=>?_)
         ·obtain ⟨r_16,hr_16,H⟩:=bind_elim H
          refine TLu (E_call (Γ:=Nat × Nat × Nat × Adr × Adr) (val:=fun g=>aG [(1,[vb true]),(1,[sl (some (g.1,0)) ((r_16.2.1).length) ((r_16.2.1++([]:List (Int))).length)]),(1,[sl (some (g.2.1,0)) ((r_16.2.2.1).length) ((r_16.2.2.1++([]:List (Int))).length)]),(1,[sl (some (g.2.2.1,0)) ((r_16.2.2.2.1).length) ((r_16.2.2.2.1++([]:List (Str))).length)]),(1,[vs r_16.1]),(1,[sl g.2.2.2.1 ((r_16.2.2.2.2.1).length) ((r_16.2.2.2.2.1++([]:List (Str))).length)]),(1,[vs ([]:Str)]),(1,[vi 0]),(1,[vs ([]:Str)]),(1,[sl g.2.2.2.2 ((r_16.2.2.2.2.2).length) ((r_16.2.2.2.2.2++([]:List (Str × Str × Int × Int × Int × Int))).length)]),(1,[vs ([]:Str)]),(1,[vi 1000]),(1,[vi 0]),(1,[vi 10]),(1,[vi 33290])]) (mem:=fun g=>[⟨some (g.1,0),eI (r_16.2.1++([]:List (Int)))⟩,⟨some (g.2.1,0),eI (r_16.2.2.1++([]:List (Int)))⟩,⟨some (g.2.2.1,0),eS (r_16.2.2.2.1++([]:List (Str)))⟩,⟨g.2.2.2.1,eS (r_16.2.2.2.2.1++([]:List (Str)))⟩,⟨g.2.2.2.2,eF (fun p:Str × Str × Int × Int × Int × Int=>[vs p.1,vs p.2.1,vi p.2.2.1,vi p.2.2.2.1,vi p.2.2.2.2.1,vi p.2.2.2.2.2]) (r_16.2.2.2.2.2++([]:List (Str × Str × Int × Int × Int × Int)))⟩]) (vs:=[]) (Lin:=[]) (Ro:=[]) (is:=[]) rfl call25 (F25_calls r_16 hr_16) rfl trivial) (fun g_16=>?_)
          obtain ⟨r_17,hr_17,H⟩:=bind_elim H
          refine TLu (E_c0 (F16_calls (some (g_16.1,0)) ((r_16.2.1++([]:List (Int))).length) (some (g_16.2.1,0)) ((r_16.2.2.1++([]:List (Int))).length) (some (g_16.2.2.1,0)) ((r_16.2.2.2.1++([]:List (Str))).length) g_16.2.2.2.1 ((r_16.2.2.2.2.1++([]:List (Str))).length) g_16.2.2.2.2 ((r_16.2.2.2.2.2++([]:List (Str × Str × Int × Int × Int × Int))).length) true r_16.2.1 r_16.2.2.1 r_16.2.2.2.1 r_16.1 r_16.2.2.2.2.1 ([]:Str) 0 ([]:Str) r_16.2.2.2.2.2 ([]:Str) 1000 0 10 33290 (row_le _ _) (row_le _ _) (row_le _ _) (row_le _ _) (row_le _ _) r_17 hr_17) call16 ⟨(srcdRow (.o 0)),(srcdRow (.o 1)),(srcdRow (.o 2)),(srcdRow (.o 3)),(srcdRowF (s:=6) (fun _=>rfl) (.o 4)),trivial⟩) (fun g_17=>?_)
          refine TVt ?_
          refine TVa ?_
          refine TL_nil ?_
          obtain rfl:=sj H
          exact TXj [] (hJ ())
         ·refine TLs ?_
          refine TLs ?_
          refine TVf ?_
          refine TVa ?_
          refine TL_nil ?_
          obtain rfl:=sj H
          exact TXj [] (hJ ())
        ·refine TLs ?_
         refine TLs ?_
         refine TVf ?_
         refine TVm ?_
         refine TLs ?_
         refine TLs ?_
         refine TVf ?_
         refine TVa ?_
         refine TL_nil ?_
         obtain rfl:=sj H
         exact TXj [] (hJ ())
      ·refine TC_skip (TX_next (TC_seq (TC_region (TLv (V_loadAgg (n:=15) (cs:=flat [(1,[vb j1.1]),(1,[sl (some (b2,0)) ((([4865,4865]:List (Int))).length) ((([4865,4865]:List (Int))++([]:List (Int))).length)]),(1,[sl (some (gj1.2.1,0)) ((j1.2.2.1).length) ((j1.2.2.1++([]:List (Int))).length)]),(1,[sl gj1.2.2.1 ((j1.2.2.2.1).length) ((j1.2.2.2.1++([]:List (Str))).length)]),(1,[vs j1.2.2.2.2.1]),(1,[sl gj1.2.2.2.1 ((j1.2.2.2.2.2.1).length) ((j1.2.2.2.2.2.1++([]:List (Str))).length)]),(1,[vs j1.2.2.2.2.2.2.1]),(1,[vi 0]),(1,[vs ([]:Str)]),(1,[sl gj1.2.2.2.2 ((j1.2.2.2.2.2.2.2).length) ((j1.2.2.2.2.2.2.2++([]:List (Str × Str × Int × Int × Int × Int))).length)]),(1,[vs ([]:Str)]),(1,[vi 1000]),(1,[vi 0]),(1,[vi 10]),(1,[vi 33290])]) rfl (by simp) (SrcEnts (b:=b1) [(1,[vb j1.1]),(1,[sl (some (b2,0)) ((([4865,4865]:List (Int))).length) ((([4865,4865]:List (Int))++([]:List (Int))).length)]),(1,[sl (some (gj1.2.1,0)) ((j1.2.2.1).length) ((j1.2.2.1++([]:List (Int))).length)]),(1,[sl gj1.2.2.1 ((j1.2.2.2.1).length) ((j1.2.2.2.1++([]:List (Str))).length)]),(1,[vs j1.2.2.2.2.1]),(1,[sl gj1.2.2.2.1 ((j1.2.2.2.2.2.1).length) ((j1.2.2.2.2.2.1++([]:List (Str))).length)]),(1,[vs j1.2.2.2.2.2.2.1]),(1,[vi 0]),(1,[vs ([]:Str)]),(1,[sl gj1.2.2.2.2 ((j1.2.2.2.2.2.2.2).length) ((j1.2.2.2.2.2.2.2++([]:List (Str × Str × Int × Int × Int × Int))).length)]),(1,[vs ([]:Str)]),(1,[vi 1000]),(1,[vi 0]),(1,[vi 10]),(1,[vi 33290])] 0 ⟨rfl,rfl,rfl,rfl,rfl,rfl,rfl,rfl,rfl,rfl,rfl,rfl,rfl,rfl,rfl,trivial⟩ (AllSrc.all (M:=ents b1 0 [(1,[vb j1.1]),(1,[sl (some (b2,0)) ((([4865,4865]:List (Int))).length) ((([4865,4865]:List (Int))++([]:List (Int))).length)]),(1,[sl (some (gj1.2.1,0)) ((j1.2.2.1).length) ((j1.2.2.1++([]:List (Int))).length)]),(1,[sl gj1.2.2.1 ((j1.2.2.2.1).length) ((j1.2.2.2.1++([]:List (Str))).length)]),(1,[vs j1.2.2.2.2.1]),(1,[sl gj1.2.2.2.1 ((j1.2.2.2.2.2.1).length) ((j1.2.2.2.2.2.1++([]:List (Str))).length)]),(1,[vs j1.2.2.2.2.2.2.1]),(1,[vi 0]),(1,[vs ([]:Str)]),(1,[sl gj1.2.2.2.2 ((j1.2.2.2.2.2.2.2).length) ((j1.2.2.2.2.2.2.2++([]:List (Str × Str × Int × Int × Int × Int))).length)]),(1,[vs ([]:Str)]),(1,[vi 1000]),(1,[vi 0]),(1,[vi 10]),(1,[vi 33290])]) ⟨Src.own (j:=0) rfl,Src.own (j:=1) rfl,Src.own (j:=3) rfl,Src.own (j:=5) rfl,Src.own (j:=7) rfl,Src.own (j:=8) rfl,Src.own (j:=10) rfl,Src.own (j:=11) rfl,Src.own (j:=12) rfl,Src.own (j:=13) rfl,Src.own (j:=15) rfl,Src.own (j:=16) rfl,Src.own (j:=17) rfl,Src.own (j:=18) rfl,Src.own (j:=19) rfl,trivial⟩)) isAgg26 inf26 rfl (flat_len ⟨rfl,rfl,rfl,rfl,rfl,rfl,rfl,rfl,rfl,rfl,rfl,rfl,rfl,rfl,rfl,trivial⟩ rfl)) ?_))))
       obtain ⟨r_18,hr_18,H⟩:=bind_elim H
       refine TLe (E_c0 (F16_calls (some (b2,0)) ((([4865,4865]:List (Int))++([]:List (Int))).length) (some (gj1.2.1,0)) ((j1.2.2.1++([]:List (Int))).length) gj1.2.2.1 ((j1.2.2.2.1++([]:List (Str))).length) gj1.2.2.2.1 ((j1.2.2.2.2.2.1++([]:List (Str))).length) gj1.2.2.2.2 ((j1.2.2.2.2.2.2.2++([]:List (Str × Str × Int × Int × Int × Int))).length) j1.1 ([4865,4865]:List (Int)) j1.2.2.1 j1.2.2.2.1 j1.2.2.2.2.1 j1.2.2.2.2.2.1 j1.2.2.2.2.2.2.1 0 ([]:Str) j1.2.2.2.2.2.2.2 ([]:Str) 1000 0 10 33290 (row_le _ _) (row_le _ _) (row_le _ _) (row_le _ _) (row_le _ _) r_18 hr_18) call16 ⟨(srcdRow (.o 2)),(srcdRow (.o 4)),(srcdRow (.o 6)),(srcdRow (.o 9)),(srcdRowF (s:=6) (fun _=>rfl) (.o 14)),trivial⟩) (fun g_18=>?_)
       refine TLv (V_un rfl (fun w=>notB w r_18)) ?_
       refine TVm ?_
       refine TFb (d:=145) H (fun hc H=>?_) (fun hc H=>?_)
       ·obtain ⟨r_19,hr_19,H⟩:=bind_elim H
        refine TLu (E_call (Γ:=Nat × Nat × Adr × Adr × Adr) (val:=fun g=>aG [(1,[vb false]),(1,[sl (some (g.1,0)) ((r_19.2.1).length) ((r_19.2.1++([]:List (Int))).length)]),(1,[sl (some (g.2.1,0)) ((r_19.2.2.1).length) ((r_19.2.2.1++([]:List (Int))).length)]),(1,[sl g.2.2.1 ((r_19.2.2.2.1).length) ((r_19.2.2.2.1++([]:List (Str))).length)]),(1,[vs ([]:Str)]),(1,[sl g.2.2.2.1 ((r_19.2.2.2.2.1).length) ((r_19.2.2.2.2.1++([]:List (Str))).length)]),(1,[vs r_19.1]),(1,[vi 0]),(1,[vs ([]:Str)]),(1,[sl g.2.2.2.2 ((r_19.2.2.2.2.2).length) ((r_19.2.2.2.2.2++([]:List (Str × Str × Int × Int × Int × Int))).length)]),(1,[vs ([]:Str)]),(1,[vi 1000]),(1,[vi 0]),(1,[vi 10]),(1,[vi 33290])]) (mem:=fun g=>[⟨some (g.1,0),eI (r_19.2.1++([]:List (Int)))⟩,⟨some (g.2.1,0),eI (r_19.2.2.1++([]:List (Int)))⟩,⟨g.2.2.1,eS (r_19.2.2.2.1++([]:List (Str)))⟩,⟨g.2.2.2.1,eS (r_19.2.2.2.2.1++([]:List (Str)))⟩,⟨g.2.2.2.2,eF (fun p:Str × Str × Int × Int × Int × Int=>[vs p.1,vs p.2.1,vi p.2.2.1,vi p.2.2.2.1,vi p.2.2.2.2.1,vi p.2.2.2.2.2]) (r_19.2.2.2.2.2++([]:List (Str × Str × Int × Int × Int × Int)))⟩]) (vs:=[]) (Lin:=[]) (Ro:=[]) (is:=[]) rfl call24 (F24_calls r_19 hr_19) rfl trivial) (fun g_19=>?_)
        obtain ⟨r_20,hr_20,H⟩:=bind_elim H
        refine TLu (E_c0 (F16_calls (some (g_19.1,0)) ((r_19.2.1++([]:List (Int))).length) (some (g_19.2.1,0)) ((r_19.2.2.1++([]:List (Int))).length) g_19.2.2.1 ((r_19.2.2.2.1++([]:List (Str))).length) g_19.2.2.2.1 ((r_19.2.2.2.2.1++([]:List (Str))).length) g_19.2.2.2.2 ((r_19.2.2.2.2.2++([]:List (Str × Str × Int × Int × Int × Int))).length) false r_19.2.1 r_19.2.2.1 r_19.2.2.2.1 ([]:Str) r_19.2.2.2.2.1 r_19.1 0 ([]:Str) r_19.2.2.2.2.2 ([]:Str) 1000 0 10 33290 (row_le _ _) (row_le _ _) (row_le _ _) (row_le _ _) (row_le _ _) r_20 hr_20) call16 ⟨(srcdRow (.o 0)),(srcdRow (.o 1)),(srcdRow (.o 2)),(srcdRow (.o 3)),(srcdRowF (s:=6) (fun _=>rfl) (.o 4)),trivial⟩) (fun g_20=>?_)
        refine TVt ?_
        refine TVm ?_
        refine TFb (d:=149) H (fun hc H=>?_) (fun hc H=>?_)
        ·obtain ⟨r_21,hr_21,H⟩:=bind_elim H
         refine TLu (E_call (Γ:=Nat × Nat × Nat × Adr × Adr) (val:=fun g=>aG [(1,[vb true]),(1,[sl (some (g.1,0)) ((r_21.2.1).length) ((r_21.2.1++([]:List (Int))).length)]),(1,[sl (some (g.2.1,0)) ((r_21.2.2.1).length) ((r_21.2.2.1++([]:List (Int))).length)]),(1,[sl (some (g.2.2.1,0)) ((r_21.2.2.2.1).length) ((r_21.2.2.2.1++([]:List (Str))).length)]),(1,[vs r_21.1]),(1,[sl g.2.2.2.1 ((r_21.2.2.2.2.1).length) ((r_21.2.2.2.2.1++([]:List (Str))).length)]),(1,[vs ([]:Str)]),(1,[vi 0]),(1,[vs ([]:Str)]),(1,[sl g.2.2.2.2 ((r_21.2.2.2.2.2).length) ((r_21.2.2.2.2.2++([]:List (Str × Str × Int × Int × Int × Int))).length)]),(1,[vs ([]:Str)]),(1,[vi 1000]),(1,[vi 0]),(1,[vi 10]),(1,[vi 33290])]) (mem:=fun g=>[⟨some (g.1,0),eI (r_21.2.1++([]:List (Int)))⟩,⟨some (g.2.1,0),eI (r_21.2.2.1++([]:List (Int)))⟩,⟨some (g.2.2.1,0),eS (r_21.2.2.2.1++([]:List (Str)))⟩,⟨g.2.2.2.1,eS (r_21.2.2.2.2.1++([]:List (Str)))⟩,⟨g.2.2.2.2,eF (fun p:Str × Str × Int × Int × Int × Int=>[vs p.1,vs p.2.1,vi p.2.2.1,vi p.2.2.2.1,vi p.2.2.2.2.1,vi p.2.2.2.2.2]) (r_21.2.2.2.2.2++([]:List (Str × Str × Int × Int × Int × Int)))⟩]) (vs:=[]) (Lin:=[]) (Ro:=[]) (is:=[]) rfl call25 (F25_calls r_21 hr_21) rfl trivial) (fun g_21=>?_)
         obtain ⟨r_22,hr_22,H⟩:=bind_elim H
         refine TLu (E_c0 (F16_calls (some (g_21.1,0)) ((r_21.2.1++([]:List (Int))).length) (some (g_21.2.1,0)) ((r_21.2.2.1++([]:List (Int))).length) (some (g_21.2.2.1,0)) ((r_21.2.2.2.1++([]:List (Str))).length) g_21.2.2.2.1 ((r_21.2.2.2.2.1++([]:List (Str))).length) g_21.2.2.2.2 ((r_21.2.2.2.2.2++([]:List (Str × Str × Int × Int × Int × Int))).length) true r_21.2.1 r_21.2.2.1 r_21.2.2.2.1 r_21.1 r_21.2.2.2.2.1 ([]:Str) 0 ([]:Str) r_21.2.2.2.2.2 ([]:Str) 1000 0 10 33290 (row_le _ _) (row_le _ _) (row_le _ _) (row_le _ _) (row_le _ _) r_22 hr_22) call16 ⟨(srcdRow (.o 0)),(srcdRow (.o 1)),(srcdRow (.o 2)),(srcdRow (.o 3)),(srcdRowF (s:=6) (fun _=>rfl) (.o 4)),trivial⟩) (fun g_22=>?_)
         refine TVt ?_
         refine TVa ?_
         refine TL_nil (TX_next (TC.sub (m':=[(6,_)]) ⟨rfl,trivial⟩ ?_))
         refine TC.pull (is:=[]) (L':=[]) rfl ?_
         refine TC_ret ?_
         obtain rfl:=sj H
         exact TX1
        ·refine TLs ?_
         refine TLs ?_
         refine TVf ?_
         refine TVa ?_
         refine TL_nil (TX_next (TC.sub (m':=[(6,_)]) ⟨rfl,trivial⟩ ?_))
         refine TC.pull (is:=[]) (L':=[]) rfl ?_
         refine TC_ret ?_
         obtain rfl:=sj H
         exact TX1
       ·refine TLs ?_
        refine TLs ?_
        refine TVf ?_
        refine TVm ?_
        refine TLs ?_
        refine TLs ?_
        refine TVf ?_
        refine TVa ?_
        refine TL_nil (TX_next (TC_ret ?_))
        obtain rfl:=sj H
        exact TX1
     ·intro hJ
      replace H:=Hj
      refine TFd (d:=125) H (fun hc H=>?_) (fun hc H=>?_)
      ·refine TLw (V_move rfl) ?_
       refine TLw (V_bin rfl rfl (fun w=>andI w d1 31)) ?_
       refine TLw (V_bin rfl rfl (fun w=>eqlI w (iop (· &&& ·) d1 31) 0)) ?_
       refine TVt ?_
       refine TL_nil ?_
       obtain rfl:=sj H
       exact TXj [1,1,0,1,1,1,1,1,1,1,1,1,1,1,1,1,1,1,1,1] (hJ ())
      ·refine TLs ?_
       refine TLs ?_
       refine TLs ?_
       refine TVf ?_
       refine TL_nil ?_
       obtain rfl:=sj H
       exact TXj [1,1,0,1,1,1,1,1,1,1,1,1,1,1,1,1,1,1,1,1] (hJ ())
    ·refine TC_seq (TC_region (TLv (V_bin rfl rfl (fun w=>eql64 w ((BitVec.ofInt 64 which) % 20#64) 2#64)) ?_))
     refine TVa ?_
     obtain ⟨x3,hx3,H⟩:=ltt_elim H
     refine TLr 32 (congrArg vb hx3) ?_
     refine TL_nil (TX_next (TCb H (fun hc H=>?_) (fun hc H=>?_)))
     ·refine TC_region (TVm ?_)
      refine TLv (V_bin rfl rfl (fun w=>addI w 4867 d1)) ?_
      refine TLe (E_buildSlice (pv:=[(0,vi (w64 (4867+d1)))]) rfl rfl underlying22 inf3 (s:=1) rfl zer3 rfl rfl rfl (cs:=eI ([w64 (4867+d1)]:List (Int))) (by kernel_rfl)) (fun b3=>?_)
      refine TLv (V_fieldE rfl underlying26 rfl rfl inf22 rfl (v:=ptr (some (b1,1)) 0) rfl) ?_
      refine TLn (E_store (j:=2) rfl rfl inf22 rfl rfl rfl (Nat.lt_succ_self 0) (cs':=[sl (some (b3,0)) 1 1]) rfl) (fun _=>?_)
      refine TL_reE (j:=0) (A:=some (b3,0)) (cs:=eI ([w64 (4867+d1)]:List (Int))) (cs':=eI (([w64 (4867+d1)]:List (Int))++([]:List (Int)))) rfl (congrArg (eI) (List.append_nil _).symm) ?_
      refine TL_reE (j:=2) (A:=some (b1,1)) (cs:=[sl (some (b3,0)) 1 1]) (cs':=[sl (some (b3,0)) ((([w64 (4867+d1)]:List (Int))).length) ((([w64 (4867+d1)]:List (Int))++([]:List (Int))).length)]) rfl (congrArg (fun z=>[z]) (sl_row rfl)) ?_
      refine TL_nil (TX_block_normal (TX_next (TC_seq (TC_seq (TC_region (TVm ?_))))))
      refine TLv (V_conv rfl (fun w=>cvI64 w _ _ underlying53 (und3) .i64 which)) ?_
      refine TLv (V_bin rfl rfl (fun w=>rem64 w (BitVec.ofInt 64 which) 20#64 (by decide))) ?_
      refine TLv (V_bin rfl rfl (fun w=>eql64 w ((BitVec.ofInt 64 which) % 20#64) 17#64)) ?_
      refine TVm ?_
      obtain ⟨j6,Hj,H⟩:=bind_elim H
      refine TL_join (Γ:=Unit) (fun gj6=>[(2,vb server),(7,ptr (some (b1,0)) 0),(129,vb j6)]) (fun gj6=>[⟨some (b1,0),[vb j1.1]⟩,⟨some (b1,1),[sl (some (b3,0)) ((([w64 (4867+d1)]:List (Int))).length) ((([w64 (4867+d1)]:List (Int))++([]:List (Int))).length)]⟩,⟨some (b3,0),eI (([w64 (4867+d1)]:List (Int))++([]:List (Int)))⟩,⟨some (b1,2),[sl (some (gj1.2.1,0)) ((j1.2.2.1).length) ((j1.2.2.1++([]:List (Int))).length)]⟩,⟨some (gj1.2.1,0),eI (j1.2.2.1++([]:List (Int)))⟩,⟨some (b1,3),[sl gj1.2.2.1 ((j1.2.2.2.1).length) ((j1.2.2.2.1++([]:List (Str))).length)]⟩,⟨gj1.2.2.1,eS (j1.2.2.2.1++([]:List (Str)))⟩,⟨some (b1,4),[vs j1.2.2.2.2.1]⟩,⟨some (b1,5),[sl gj1.2.2.2.1 ((j1.2.2.2.2.2.1).length) ((j1.2.2.2.2.2.1++([]:List (Str))).length)]⟩,⟨gj1.2.2.2.1,eS (j1.2.2.2.2.2.1++([]:List (Str)))⟩,⟨some (b1,6),[vs j1.2.2.2.2.2.2.1]⟩,⟨some (b1,7),[vi 0]⟩,⟨some (b1,8),[vs ([]:Str)]⟩,⟨some (b1,9),[sl gj1.2.2.2.2 ((j1.2.2.2.2.2.2.2).length) ((j1.2.2.2.2.2.2.2++([]:List (Str × Str × Int × Int × Int × Int))).length)]⟩,⟨gj1.2.2.2.2,eF (fun p:Str × Str × Int × Int × Int × Int=>[vs p.1,vs p.2.1,vi p.2.2.1,vi p.2.2.2.1,vi p.2.2.2.2.1,vi p.2.2.2.2.2]) (j1.2.2.2.2.2.2.2++([]:List (Str × Str × Int × Int × Int × Int)))⟩,⟨some (b1,10),[vs ([]:Str)]⟩,⟨some (b1,11),[vi 1000]⟩,⟨some (b1,12),[vi 0]⟩,⟨some (b1,13),[vi 10]⟩,⟨some (b1,14),[vi 33290]⟩]) ?_ ?_
      ·intro gj6
       refine TX_next (TCb H (fun hc H=>?_) (fun hc H=>?_))
       ·refine TC_seq (TC_region (TLv (V_loadAgg (n:=15) (cs:=flat [(1,[vb j1.1]),(1,[sl (some (b3,0)) ((([w64 (4867+d1)]:List (Int))).length) ((([w64 (4867+d1)]:List (Int))++([]:List (Int))).length)]),(1,[sl (some (gj1.2.1,0)) ((j1.2.2.1).length) ((j1.2.2.1++([]:List (Int))).length)]),(1,[sl gj1.2.2.1 ((j1.2.2.2.1).length) ((j1.2.2.2.1++([]:List (Str))).length)]),(1,[vs j1.2.2.2.2.1]),(1,[sl gj1.2.2.2.1 ((j1.2.2.2.2.2.1).length) ((j1.2.2.2.2.2.1++([]:List (Str))).length)]),(1,[vs j1.2.2.2.2.2.2.1]),(1,[vi 0]),(1,[vs ([]:Str)]),(1,[sl gj1.2.2.2.2 ((j1.2.2.2.2.2.2.2).length) ((j1.2.2.2.2.2.2.2++([]:List (Str × Str × Int × Int × Int × Int))).length)]),(1,[vs ([]:Str)]),(1,[vi 1000]),(1,[vi 0]),(1,[vi 10]),(1,[vi 33290])]) rfl (by simp) (SrcEnts (b:=b1) [(1,[vb j1.1]),(1,[sl (some (b3,0)) ((([w64 (4867+d1)]:List (Int))).length) ((([w64 (4867+d1)]:List (Int))++([]:List (Int))).length)]),(1,[sl (some (gj1.2.1,0)) ((j1.2.2.1).length) ((j1.2.2.1++([]:List (Int))).length)]),(1,[sl gj1.2.2.1 ((j1.2.2.2.1).length) ((j1.2.2.2.1++([]:List (Str))).length)]),(1,[vs j1.2.2.2.2.1]),(1,[sl gj1.2.2.2.1 ((j1.2.2.2.2.2.1).length) ((j1.2.2.2.2.2.1++([]:List (Str))).length)]),(1,[vs j1.2.2.2.2.2.2.1]),(1,[vi 0]),(1,[vs ([]:Str)]),(1,[sl gj1.2.2.2.2 ((j1.2.2.2.2.2.2.2).length) ((j1.2.2.2.2.2.2.2++([]:List (Str × Str × Int × Int × Int × Int))).length)]),(1,[vs ([]:Str)]),(1,[vi 1000]),(1,[vi 0]),(1,[vi 10]),(1,[vi 33290])] 0 ⟨rfl,rfl,rfl,rfl,rfl,rfl,rfl,rfl,rfl,rfl,rfl,rfl,rfl,rfl,rfl,trivial⟩ (AllSrc.all (M:=ents b1 0 [(1,[vb j1.1]),(1,[sl (some (b3,0)) ((([w64 (4867+d1)]:List (Int))).length) ((([w64 (4867+d1)]:List (Int))++([]:List (Int))).length)]),(1,[sl (some (gj1.2.1,0)) ((j1.2.2.1).length) ((j1.2.2.1++([]:List (Int))).length)]),(1,[sl gj1.2.2.1 ((j1.2.2.2.1).length) ((j1.2.2.2.1++([]:List (Str))).length)]),(1,[vs j1.2.2.2.2.1]),(1,[sl gj1.2.2.2.1 ((j1.2.2.2.2.2.1).length) ((j1.2.2.2.2.2.1++([]:List (Str))).length)]),(1,[vs j1.2.2.2.2.2.2.1]),(1,[vi 0]),(1,[vs ([]:Str)]),(1,[sl gj1.2.2.2.2 ((j1.2.2.2.2.2.2.2).length) ((j1.2.2.2.2.2.2.2++([]:List (Str × Str × Int × Int × Int × Int))).length)]),(1,[vs ([]:Str)]),(1,[vi 1000]),(1,[vi 0]),(1,[vi 10]),(1,[vi 33290])]) ⟨Src.own (j:=0) rfl,Src.own (j:=1) rfl,Src.own (j:=3) rfl,Src.own (j:=5) rfl,Src.own (j:=7) rfl,Src.own (j:=8) rfl,Src.own (j:=10) rfl,Src.own (j:=11) rfl,Src.own (j:=12) rfl,Src.own (j:=13) rfl,Src.own (j:=15) rfl,Src.own (j:=16) rfl,Src.own (j:=17) rfl,Src.own (j:=18) rfl,Src.own (j:=19) rfl,trivial⟩)) isAgg26 inf26 rfl (flat_len ⟨rfl,rfl,rfl,rfl,rfl,rfl,rfl,rfl,rfl,rfl,rfl,rfl,rfl,rfl,rfl,trivial⟩ rfl)) ?_))
        obtain ⟨r_23,hr_23,H⟩:=bind_elim H
        refine TLe (E_c0 (F16_calls (some (b3,0)) ((([w64 (4867+d1)]:List (Int))++([]:List (Int))).length) (some (gj1.2.1,0)) ((j1.2.2.1++([]:List (Int))).length) gj1.2.2.1 ((j1.2.2.2.1++([]:List (Str))).length) gj1.2.2.2.1 ((j1.2.2.2.2.2.1++([]:List (Str))).length) gj1.2.2.2.2 ((j1.2.2.2.2.2.2.2++([]:List (Str × Str × Int × Int × Int × Int))).length) j1.1 ([w64 (4867+d1)]:List (Int)) j1.2.2.1 j1.2.2.2.1 j1.2.2.2.2.1 j1.2.2.2.2.2.1 j1.2.2.2.2.2.2.1 0 ([]:Str) j1.2.2.2.2.2.2.2 ([]:Str) 1000 0 10 33290 (row_le _ _) (row_le _ _) (row_le _ _) (row_le _ _) (row_le _ _) r_23 hr_23) call16 ⟨(srcdRow (.o 2)),(srcdRow (.o 4)),(srcdRow (.o 6)),(srcdRow (.o 9)),(srcdRowF (s:=6) (fun _=>rfl) (.o 14)),trivial⟩) (fun g_23=>?_)
        refine TVm ?_
        refine TLv (V_bin rfl rfl (fun w=>eqlB w r_23 server underlying4)) ?_
        refine TVm ?_
        obtain ⟨j7,Hj,H⟩:=bind_elim H
        refine TL_join (Γ:=Unit) (fun gj7=>[(6,vb j7)]) (fun gj7=>[]) ?_ ?_
        ·intro gj7
         refine TX_next (TC_ret (TX_then_ret ?_))
         obtain rfl:=sj H
         exact TX1
        ·intro hJ
         replace H:=Hj
         refine TFb (d:=134) H (fun hc H=>?_) (fun hc H=>?_)
         ·obtain ⟨r_24,hr_24,H⟩:=bind_elim H
          refine TLu (E_call (Γ:=Nat × Nat × Adr × Adr × Adr) (val:=fun g=>aG [(1,[vb false]),(1,[sl (some (g.1,0)) ((r_24.2.1).length) ((r_24.2.1++([]:List (Int))).length)]),(1,[sl (some (g.2.1,0)) ((r_24.2.2.1).length) ((r_24.2.2.1++([]:List (Int))).length)]),(1,[sl g.2.2.1 ((r_24.2.2.2.1).length) ((r_24.2.2.2.1++([]:List (Str))).length)]),(1,[vs ([]:Str)]),(1,[sl g.2.2.2.1 ((r_24.2.2.2.2.1).length) ((r_24.2.2.2.2.1++([]:List (Str))).length)]),(1,[vs r_24.1]),(1,[vi 0]),(1,[vs ([]:Str)]),(1,[sl g.2.2.2.2 ((r_24.2.2.2.2.2).length) ((r_24.2.2.2.2.2++([]:List (Str × Str × Int × Int × Int × Int))).length)]),(1,[vs ([]:Str)]),(1,[vi 1000]),(1,[vi 0]),(1,[vi 10]),(1,[vi 33290])]) (mem:=fun g=>[⟨some (g.1,0),eI (r_24.2.1++([]:List (Int)))⟩,⟨some (g.2.1,0),eI (r_24.2.2.1++([]:List (Int)))⟩,⟨g.2.2.1,eS (r_24.2.2.2.1++([]:List (Str)))⟩,⟨g.2.2.2.1,eS (r_24.2.2.2.2.1++([]:List (Str)))⟩,⟨g.2.2.2.2,eF (fun p:Str × Str × Int × Int × Int × Int=>[vs p.1,vs p.2.1,vi p.2.2.1,vi p.2.2.2.1,vi p.2.2.2.2.1,vi p.2.2.2.2.2]) (r_24.2.2.2.2.2++([]:List (Str × Str × Int × Int × Int × Int)))⟩]) (vs:=[]) (Lin:=[]) (Ro:=[]) (is:=[]) rfl call24 (F24_calls r_24 hr_24) rfl trivial) (fun g_24=>?_)
          obtain ⟨r_25,hr_25,H⟩:=bind_elim H
          refine TLu (E_c0 (F16_calls (some (g_24.1,0)) ((r_24.2.1++([]:List (Int))).length) (some (g_24.2.1,0)) ((r_24.2.2.1++([]:List (Int))).length) g_24.2.2.1 ((r_24.2.2.2.1++([]:List (Str))).length) g_24.2.2.2.1 ((r_24.2.2.2.2.1++([]:List (Str))).length) g_24.2.2.2.2 ((r_24.2.2.2.2.2++([]:List (Str × Str × Int × Int × Int × Int))).length) false r_24.2.1 r_24.2.2.1 r_24.2.2.2.1 ([]:Str) r_24.2.2.2.2.1 r_24.1 0 ([]:Str) r_24.2.2.2.2.2 ([]:Str) 1000 0 10 33290 (row_le _ _) (row_le _ _) (row_le _ _) (row_le _ _) (row_le _ _) r_25 hr_25) call16 ⟨(srcdRow (.o 0)),(srcdRow (.o 1)),(srcdRow (.o 2)),(srcdRow (.o 3)),(srcdRowF (s:=6) (fun _=>rfl) (.o 4)),trivial⟩) (fun g_25=>?_)
          refine TVt ?_
          refine TVm ?_
          refine TFb (d:=138) H (fun hc H=>?_) (fun hc H=>?_)
          ·obtain ⟨r_26,hr_26,H⟩:=bind_elim H
           refine TLu (E_call (Γ:=Nat × Nat × Nat × Adr × Adr) (val:=fun g=>aG [(1,[vb true]),(1,[sl (some (g.1,0)) ((r_26.2.1).length) ((r_26.2.1++([]:List (Int))).length)]),(1,[sl (some (g.2.1,0)) ((r_26.2.2.1).length) ((r_26.2.2.1++([]:List (Int))).length)]),(1,[sl (some (g.2.2.1,0)) ((r_26.2.2.2.1).length) ((r_26.2.2.2.1++([]:List (Str))).length)]),(1,[vs r_26.1]),(1,[sl g.2.2.2.1 ((r_26.2.2.2.2.1).length) ((r_26.2.2.2.2.1++([]:List (Str))).length)]),(1,[vs ([]:Str)]),(1,[vi 0]),(1,[vs ([]:Str)]),(1,[sl g.2.2.2.2 ((r_26.2.2.2.2.2).length) ((r_26.2.2.2.2.2++([]:List (Str × Str × Int × Int × Int × Int))).length)]),(1,[vs ([]:Str)]),(1,[vi 1000]),(1,[vi 0]),(1,[vi 10]),(1,[vi 33290])]) (mem:=fun g=>[⟨some (g.1,0),eI (r_26.2.1++([]:List (Int)))⟩,⟨some (g.2.1,0),eI (r_26.2.2.1++([]:List (Int)))⟩,⟨some (g.2.2.1,0),eS (r_26.2.2.2.1++([]:List (Str)))⟩,⟨g.2.2.2.1,eS (r_26.2.2.2.2.1++([]:List (Str)))⟩,⟨g.2.2.2.2,eF (fun p:Str × Str × Int × Int × Int × Int=>[vs p.1,vs p.2.1,vi p.2.2.1,vi p.2.2.2.1,vi p.2.2.2.2.1,vi p.2.2.2.2.2]) (r_26.2.2.2.2.2++([]:List (Str × Str × Int × Int × Int × Int)))⟩]) (vs:=[]) (Lin:=[]) (Ro:=[]) (is:=[]) rfl call25 (F25_calls r_26 hr_26) rfl trivial) (fun g_26=>?_)
           obtain ⟨r_27,hr_27,H⟩:=bind_elim H
           refine TLu (E_c0 (F16_calls (some (g_26.1,0)) ((r_26.2.1++([]:List (Int))).length) (some (g_26.2.1,0)) ((r_26.2.2.1++([]:List (Int))).length) (some (g_26.2.2.1,0)) ((r_26.2.2.2.1++([]:List (Str))).length) g_26.2.2.2.1 ((r_26.2.2.2.2.1++([]:List (Str))).length) g_26.2.2.2.2 ((r_26.2.2.2.2.2++([]:List (Str × Str × Int × Int × Int × Int))).length) true r_26.2.1 r_26.2.2.1 r_26.2.2.2.1 r_26.1 r_26.2.2.2.2.1 ([]:Str) 0 ([]:Str) r_26.2.2.2.2.2 ([]:Str) 1000 0 10 33290 (row_le _ _) (row_le _ _) (row_le _ _) (row_le _ _) (row_le _ _) r_27 hr_27) call16 ⟨(srcdRow (.o 0)),(srcdRow (.o 1)),(srcdRow (.o 2)),(srcdRow (.o 3)),(srcdRowF (s:=6) (fun _=>rfl) (.o 4)),trivial⟩) (fun g_27=>?_)
           refine TVt ?_
           refine TVa ?_
           refine TL_nil ?_
           obtain rfl:=sj H
           exact TXj [] (hJ ())
          ·refine TLs ?_
           refine TLs ?_
           refine TVf ?_
           refine TVa ?_
           refine TL_nil ?_
           obtain rfl:=sj H
           exact TXj [] (hJ ())
         ·refine TLs ?_
          refine TLs ?_
          refine TVf ?_
          refine TVm ?_
          refine TLs ?_
          refine TLs ?_
          refine TVf ?_
          refine TVa ?_
          refine TL_nil ?_
          obtain rfl:=sj H
          exact TXj [] (hJ ())
       ·refine TC_skip (TX_next (TC_seq (TC_region (TLv (V_loadAgg (n:=15) (cs:=flat [(1,[vb j1.1]),(1,[sl (some (b3,0)) ((([w64 (4867+d1)]:List (Int))).length) ((([w64 (4867+d1)]:List (Int))++([]:List (Int))).length)]),(1,[sl (some (gj1.2.1,0)) ((j1.2.2.1).length) ((j1.2.2.1++([]:List (Int))).length)]),(1,[sl gj1.2.2.1 ((j1.2.2.2.1).length) ((j1.2.2.2.1++([]:List (Str))).length)]),(1,[vs j1.2.2.2.2.1]),(1,[sl gj1.2.2.2.1 ((j1.2.2.2.2.2.1).length) ((j1.2.2.2.2.2.1++([]:List (Str))).length)]),(1,[vs j1.2.2.2.2.2.2.1]),(1,[vi 0]),(1,[vs ([]:Str)]),(1,[sl gj1.2.2.2.2 ((j1.2.2.2.2.2.2.2).length) ((j1.2.2.2.2.2.2.2++([]:List (Str × Str × Int × Int × Int × Int))).length)]),(1,[vs ([]:Str)]),(1,[vi 1000]),(1,[vi 0]),(1,[vi 10]),(1,[vi 33290])]) rfl (by simp) (SrcEnts (b:=b1) [(1,[vb j1.1]),(1,[sl (some (b3,0)) ((([w64 (4867+d1)]:List (Int))).length) ((([w64 (4867+d1)]:List (Int))++([]:List (Int))).length)]),(1,[sl (some (gj1.2.1,0)) ((j1.2.2.1).length) ((j1.2.2.1++([]:List (Int))).length)]),(1,[sl gj1.2.2.1 ((j1.2.2.2.1).length) ((j1.2.2.2.1++([]:List (Str))).length)]),(1,[vs j1.2.2.2.2.1]),(1,[sl gj1.2.2.2.1 ((j1.2.2.2.2.2.1).length) ((j1.2.2.2.2.2.1++([]:List (Str))).length)]),(1,[vs j1.2.2.2.2.2.2.1]),(1,[vi 0]),(1,[vs ([]:Str)]),(1,[sl gj1.2.2.2.2 ((j1.2.2.2.2.2.2.2).length) ((j1.2.2.2.2.2.2.2++([]:List (Str × Str × Int × Int × Int × Int))).length)]),(1,[vs ([]:Str)]),(1,[vi 1000]),(1,[vi 0]),(1,[vi 10]),(1,[vi 33290])] 0 ⟨rfl,rfl,rfl,rfl,rfl,rfl,rfl,rfl,rfl,rfl,rfl,rfl,rfl,rfl,rfl,trivial⟩ (AllSrc.all (M:=ents b1 0 [(1,[vb j1.1]),(1,[sl (some (b3,0)) ((([w64 (4867+d1)]:List (Int))).length) ((([w64 (4867+d1)]:List (Int))++([]:List (Int))).length)]),(1,[sl (some (gj1.2.1,0)) ((j1.2.2.1).length) ((j1.2.2.1++([]:List (Int))).length)]),(1,[sl gj1.2.2.1 ((j1.2.2.2.1).length) ((j1.2.2.2.1++([]:List (Str))).length)]),(1,[vs j1.2.2.2.2.1]),(1,[sl gj1.2.2.2.1 ((j1.2.2.2.2.2.1).length) ((j1.2.2.2.2.2.1++([]:List (Str))).length)]),(1,[vs j1.2.2.2.2.2.2.1]),(1,[vi 0]),(1,[vs ([]:Str)]),(1,[sl gj1.2.2.2.2 ((j1.2.2.2.2.2.2.2).length) ((j1.2.2.2.2.2.2.2++([]:List (Str × Str × Int × Int × Int × Int))).length)]),(1,[vs ([]:Str)]),(1,[vi 1000]),(1,[vi 0]),(1,[vi 10]),(1,[vi 33290])]) ⟨Src.own (j:=0) rfl,Src.own (j:=1) rfl,Src.own (j:=3) rfl,Src.own (j:=5) rfl,Src.own (j:=7) rfl,Src.own (j:=8) rfl,Src.own (j:=10) rfl,Src.own (j:=11) rfl,Src.own (j:=12) rfl,Src.own (j:=13) rfl,Src.own (j:=15) rfl,Src.own (j:=16) rfl,Src.own (j:=17) rfl,Src.own (j:=18) rfl,Src.own (j:=19) rfl,trivial⟩)) isAgg26 inf26 rfl (flat_len ⟨rfl,rfl,rfl,rfl,rfl,rfl,rfl,rfl,rfl,rfl,rfl,rfl,rfl,rfl,rfl,trivial⟩ rfl)) ?_))))
        obtain ⟨r_28,hr_28,H⟩:=bind_elim H
        refine TLe (E_c0 (F16_calls (some (b3,0)) ((([w64 (4867+d1)]:List (Int))++([]:List (Int))).length) (some (gj1.2.1,0)) ((j1.2.2.1++([]:List (Int))).length) gj1.2.2.1 ((j1.2.2.2.1++([]:List (Str))).length) gj1.2.2.2.1 ((j1.2.2.2.2.2.1++([]:List (Str))).length) gj1.2.2.2.2 ((j1.2.2.2.2.2.2.2++([]:List (Str × Str × Int × Int × Int × Int))).length) j1.1 ([w64 (4867+d1)]:List (Int)) j1.2.2.1 j1.2.2.2.1 j1.2.2.2.2.1 j1.2.2.2.2.2.1 j1.2.2.2.2.2.2.1 0 ([]:Str) j1.2.2.2.2.2.2.2 ([]:Str) 1000 0 10 33290 (row_le _ _) (row_le _ _) (row_le _ _) (row_le _ _) (row_le _ _) r_28 hr_28) call16 ⟨(srcdRow (.o 2)),(srcdRow (.o 4)),(srcdRow (.o 6)),(srcdRow (.o 9)),(srcdRowF (s:=6) (fun _=>rfl) (.o 14)),trivial⟩) (fun g_28=>?_)
        refine TLv (V_un rfl (fun w=>notB w r_28)) ?_
        refine TVm ?_
        refine TFb (d:=145) H (fun hc H=>?_) (fun hc H=>?_)
        ·obtain ⟨r_29,hr_29,H⟩:=bind_elim H
         refine TLu (E_call (Γ:=Nat × Nat × Adr × Adr × Adr) (val:=fun g=>aG [(1,[vb false]),(1,[sl (some (g.1,0)) ((r_29.2.1).length) ((r_29.2.1++([]:List (Int))).length)]),(1,[sl (some (g.2.1,0)) ((r_29.2.2.1).length) ((r_29.2.2.1++([]:List (Int))).length)]),(1,[sl g.2.2.1 ((r_29.2.2.2.1).length) ((r_29.2.2.2.1++([]:List (Str))).length)]),(1,[vs ([]:Str)]),(1,[sl g.2.2.2.1 ((r_29.2.2.2.2.1).length) ((r_29.2.2.2.2.1++([]:List (Str))).length)]),(1,[vs r_29.1]),(1,[vi 0]),(1,[vs ([]:Str)]),(1,[sl g.2.2.2.2 ((r_29.2.2.2.2.2).length) ((r_29.2.2.2.2.2++([]:List (Str × Str × Int × Int × Int × Int))).length)]),(1,[vs ([]:Str)]),(1,[vi 1000]),(1,[vi 0]),(1,[vi 10]),(1,[vi 33290])]) (mem:=fun g=>[⟨some (g.1,0),eI (r_29.2.1++([]:List (Int)))⟩,⟨some (g.2.1,0),eI (r_29.2.2.1++([]:List (Int)))⟩,⟨g.2.2.1,eS (r_29.2.2.2.1++([]:List (Str)))⟩,⟨g.2.2.2.1,eS (r_29.2.2.2.2.1++([]:List (Str)))⟩,⟨g.2.2.2.2,eF (fun p:Str × Str × Int × Int × Int × Int=>[vs p.1,vs p.2.1,vi p.2.2.1,vi p.2.2.2.1,vi p.2.2.2.2.1,vi p.2.2.2.2.2]) (r_29.2.2.2.2.2++([]:List (Str × Str × Int × Int × Int × Int)))⟩]) (vs:=[]) (Lin:=[]) (Ro:=[]) (is:=[]) rfl call24 (F24_calls r_29 hr_29) rfl trivial) (fun g_29=>?_)
         obtain ⟨r_30,hr_30,H⟩:=bind_elim H
         refine TLu (E_c0 (F16_calls (some (g_29.1,0)) ((r_29.2.1++([]:List (Int))).length) (some (g_29.2.1,0)) ((r_29.2.2.1++([]:List (Int))).length) g_29.2.2.1 ((r_29.2.2.2.1++([]:List (Str))).length) g_29.2.2.2.1 ((r_29.2.2.2.2.1++([]:List (Str))).length) g_29.2.2.2.2 ((r_29.2.2.2.2.2++([]:List (Str × Str × Int × Int × Int × Int))).length) false r_29.2.1 r_29.2.2.1 r_29.2.2.2.1 ([]:Str) r_29.2.2.2.2.1 r_29.1 0 ([]:Str) r_29.2.2.2.2.2 ([]:Str) 1000 0 10 33290 (row_le _ _) (row_le _ _) (row_le _ _) (row_le _ _) (row_le _ _) r_30 hr_30) call16 ⟨(srcdRow (.o 0)),(srcdRow (.o 1)),(srcdRow (.o 2)),(srcdRow (.o 3)),(srcdRowF (s:=6) (fun _=>rfl) (.o 4)),trivial⟩) (fun g_30=>?_)
         refine TVt ?_
         refine TVm ?_
         refine TFb (d:=149) H (fun hc H=>?_) (fun hc H=>?_)
         ·obtain ⟨r_31,hr_31,H⟩:=bind_elim H
          refine TLu (E_call (Γ:=Nat × Nat × Nat × Adr × Adr) (val:=fun g=>aG [(1,[vb true]),(1,[sl (some (g.1,0)) ((r_31.2.1).length) ((r_31.2.1++([]:List (Int))).length)]),(1,[sl (some (g.2.1,0)) ((r_31.2.2.1).length) ((r_31.2.2.1++([]:List (Int))).length)]),(1,[sl (some (g.2.2.1,0)) ((r_31.2.2.2.1).length) ((r_31.2.2.2.1++([]:List (Str))).length)]),(1,[vs r_31.1]),(1,[sl g.2.2.2.1 ((r_31.2.2.2.2.1).length) ((r_31.2.2.2.2.1++([]:List (Str))).length)]),(1,[vs ([]:Str)]),(1,[vi 0]),(1,[vs ([]:Str)]),(1,[sl g.2.2.2.2 ((r_31.2.2.2.2.2).length) ((r_31.2.2.2.2.2++([]:List (Str × Str × Int × Int × Int × Int))).length)]),(1,[vs ([]:Str)]),(1,[vi 1000]),(1,[vi 0]),(1,[vi 10]),(1,[vi 33290])]) (mem:=fun g=>[⟨some (g.1,0),eI (r_31.2.1++([]:List (Int)))⟩,⟨some (g.2.1,0),eI (r_31.2.2.1++([]:List (Int)))⟩,⟨some (g.2.2.1,0),eS (r_31.2.2.2.1++([]:List (Str)))⟩,⟨g.2.2.2.1,eS (r_31.2.2.2.2.1++([]:List (Str)))⟩,⟨g.2.2.2.2,eF (fun p:Str × Str × Int × Int × Int × Int=>[vs p.1,vs p.2.1,vi p.2.2.1,vi p.2.2.2.1,vi p.2.2.2.2.1,vi p.2.2.2.2.2]) (r_31.2.2.2.2.2++([]:List (Str × Str × Int × Int × Int × Int)))⟩]) (vs:=[]) (Lin:=[]) (Ro:=[]) (is:=[]) rfl call25 (F25_calls r_31 hr_31) rfl trivial) (fun g_31=>?_)
          obtain ⟨r_32,hr_32,H⟩:=bind_elim H
          refine TLu (E_c0 (F16_calls (some (g_31.1,0)) ((r_31.2.1++([]:List (Int))).length) (some (g_31.2.1,0)) ((r_31.2.2.1++([]:List (Int))).length) (some (g_31.2.2.1,0)) ((r_31.2.2.2.1++([]:List (Str))).length) g_31.2.2.2.1 ((r_31.2.2.2.2.1++([]:List (Str))).length) g_31.2.2.2.2 ((r_31.2.2.2.2.2++([]:List (Str × Str × Int × Int × Int × Int))).length) true r_31.2.1 r_31.2.2.1 r_31.2.2.2.1 r_31.1 r_31.2.2.2.2.1 ([]:Str) 0 ([]:Str) r_31.2.2.2.2.2 ([]:Str) 1000 0 10 33290 (row_le _ _) (row_le _ _) (row_le _ _) (row_le _ _) (row_le _ _) r_32 hr_32) call16 ⟨(srcdRow (.o 0)),(srcdRow (.o 1)),(srcdRow (.o 2)),(srcdRow (.o 3)),(srcdRowF (s:=6) (fun _=>rfl) (.o 4)),trivial⟩) (fun g_32=>?_)
          refine TVt ?_
          refine TVa ?_
          refine TL_nil (TX_next (TC.sub (m':=[(6,_)]) ⟨rfl,trivial⟩ ?_))
          refine TC.pull (is:=[]) (L':=[]) rfl ?_
          refine TC_ret ?_
          obtain rfl:=sj H
          exact TX1
         ·refine TLs ?_
          refine TLs ?_
          refine TVf ?_
          refine TVa ?_
          refine TL_nil (TX_next (TC.sub (m':=[(6,_)]) ⟨rfl,trivial⟩ ?_))
          refine TC.pull (is:=[]) (L':=[]) rfl ?_
          refine TC_ret ?_
          obtain rfl:=sj H
          exact TX1
        ·refine TLs ?_
         refine TLs ?_
         refine TVf ?_
         refine TVm ?_
         refine TLs ?_
         refine TLs ?_
         refine TVf ?_
         refine TVa ?_
         refine TL_nil (TX_next (TC_ret ?_))
         obtain rfl:=sj H
         exact TX1
      ·intro hJ
       replace H:=Hj
       refine TFd (d:=125) H (fun hc H=>?_) (fun hc H=>?_)
       ·refine TLw (V_move rfl) ?_
        refine TLw (V_bin rfl rfl (fun w=>andI w d1 31)) ?_
        refine TLw (V_bin rfl rfl (fun w=>eqlI w (iop (· &&& ·) d1 31) 0)) ?_
        refine TVt ?_
        refine TL_nil ?_
        obtain rfl:=sj H
        exact TXj [1,1,0,1,1,1,1,1,1,1,1,1,1,1,1,1,1,1,1,1] (hJ ())
       ·refine TLs ?_
        refine TLs ?_
        refine TLs ?_
        refine TVf ?_
        refine TL_nil ?_
        obtain rfl:=sj H
        exact TXj [1,1,0,1,1,1,1,1,1,1,1,1,1,1,1,1,1,1,1,1] (hJ ())
     ·refine TC_seq (TC_region (TLv (V_bin rfl rfl (fun w=>eql64 w ((BitVec.ofInt 64 which) % 20#64) 3#64)) ?_))
      refine TVa ?_
      obtain ⟨x4,hx4,H⟩:=ltt_elim H
      refine TLr 38 (congrArg vb hx4) ?_
      refine TL_nil (TX_next (TCb H (fun hc H=>?_) (fun hc H=>?_)))
      ·refine TC_region (TLv (V_fieldE rfl underlying26 rfl rfl inf22 rfl (v:=ptr (some (b1,2)) 0) rfl) ?_)
       refine TLn (E_store (j:=3) rfl rfl inf22 rfl rfl rfl (Nat.lt_succ_self 0) (cs':=[sl none 0 0]) rfl) (fun _=>?_)
       refine TL_nil (TX_block_normal (TX_next (TC_seq (TC_seq (TC_region (TVm ?_))))))
       refine TLv (V_conv rfl (fun w=>cvI64 w _ _ underlying53 (und3) .i64 which)) ?_
       refine TLv (V_bin rfl rfl (fun w=>rem64 w (BitVec.ofInt 64 which) 20#64 (by decide))) ?_
       refine TLv (V_bin rfl rfl (fun w=>eql64 w ((BitVec.ofInt 64 which) % 20#64) 17#64)) ?_
       refine TVm ?_
       obtain ⟨j8,Hj,H⟩:=bind_elim H
       refine TL_join (Γ:=Unit) (fun gj8=>[(2,vb server),(7,ptr (some (b1,0)) 0),(129,vb j8)]) (fun gj8=>[⟨some (b1,0),[vb j1.1]⟩,⟨some (b1,1),[sl (some (gj1.1,0)) ((j1.2.1).length) ((j1.2.1++([]:List (Int))).length)]⟩,⟨some (gj1.1,0),eI (j1.2.1++([]:List (Int)))⟩,⟨some (b1,2),[sl none 0 0]⟩,⟨some (b1,3),[sl gj1.2.2.1 ((j1.2.2.2.1).length) ((j1.2.2.2.1++([]:List (Str))).length)]⟩,⟨gj1.2.2.1,eS (j1.2.2.2.1++([]:List (Str)))⟩,⟨some (b1,4),[vs j1.2.2.2.2.1]⟩,⟨some (b1,5),[sl gj1.2.2.2.1 ((j1.2.2.2.2.2.1).length) ((j1.2.2.2.2.2.1++([]:List (Str))).length)]⟩,⟨gj1.2.2.2.1,eS (j1.2.2.2.2.2.1++([]:List (Str)))⟩,⟨some (b1,6),[vs j1.2.2.2.2.2.2.1]⟩,⟨some (b1,7),[vi 0]⟩,⟨some (b1,8),[vs ([]:Str)]⟩,⟨some (b1,9),[sl gj1.2.2.2.2 ((j1.2.2.2.2.2.2.2).length) ((j1.2.2.2.2.2.2.2++([]:List (Str × Str × Int × Int × Int × Int))).length)]⟩,⟨gj1.2.2.2.2,eF (fun p:Str × Str × Int × Int × Int × Int=>[vs p.1,vs p.2.1,vi p.2.2.1,vi p.2.2.2.1,vi p.2.2.2.2.1,vi p.2.2.2.2.2]) (j1.2.2.2.2.2.2.2++([]:List (Str × Str × Int × Int × Int × Int)))⟩,⟨some (b1,10),[vs ([]:Str)]⟩,⟨some (b1,11),[vi 1000]⟩,⟨some (b1,12),[vi 0]⟩,⟨some (b1,13),[vi 10]⟩,⟨some (b1,14),[vi 33290]⟩]) ?_ ?_
       ·intro gj8
        refine TX_next (TCb H (fun hc H=>?_) (fun hc H=>?_))
        ·refine TC_seq (TC_region (TLv (V_loadAgg (n:=15) (cs:=flat [(1,[vb j1.1]),(1,[sl (some (gj1.1,0)) ((j1.2.1).length) ((j1.2.1++([]:List (Int))).length)]),(1,[sl none 0 0]),(1,[sl gj1.2.2.1 ((j1.2.2.2.1).length) ((j1.2.2.2.1++([]:List (Str))).length)]),(1,[vs j1.2.2.2.2.1]),(1,[sl gj1.2.2.2.1 ((j1.2.2.2.2.2.1).length) ((j1.2.2.2.2.2.1++([]:List (Str))).length)]),(1,[vs j1.2.2.2.2.2.2.1]),(1,[vi 0]),(1,[vs ([]:Str)]),(1,[sl gj1.2.2.2.2 ((j1.2.2.2.2.2.2.2).length) ((j1.2.2.2.2.2.2.2++([]:List (Str × Str × Int × Int × Int × Int))).length)]),(1,[vs ([]:Str)]),(1,[vi 1000]),(1,[vi 0]),(1,[vi 10]),(1,[vi 33290])]) rfl (by simp) (SrcEnts (b:=b1) [(1,[vb j1.1]),(1,[sl (some (gj1.1,0)) ((j1.2.1).length) ((j1.2.1++([]:List (Int))).length)]),(1,[sl none 0 0]),(1,[sl gj1.2.2.1 ((j1.2.2.2.1).length) ((j1.2.2.2.1++([]:List (Str))).length)]),(1,[vs j1.2.2.2.2.1]),(1,[sl gj1.2.2.2.1 ((j1.2.2.2.2.2.1).length) ((j1.2.2.2.2.2.1++([]:List (Str))).length)]),(1,[vs j1.2.2.2.2.2.2.1]),(1,[vi 0]),(1,[vs ([]:Str)]),(1,[sl gj1.2.2.2.2 ((j1.2.2.2.2.2.2.2).length) ((j1.2.2.2.2.2.2.2++([]:List (Str × Str × Int × Int × Int × Int))).length)]),(1,[vs ([]:Str)]),(1,[vi 1000]),(1,[vi 0]),(1,[vi 10]),(1,[vi 33290])] 0 ⟨rfl,rfl,rfl,rfl,rfl,rfl,rfl,rfl,rfl,rfl,rfl,rfl,rfl,rfl,rfl,trivial⟩ (AllSrc.all (M:=ents b1 0 [(1,[vb j1.1]),(1,[sl (some (gj1.1,0)) ((j1.2.1).length) ((j1.2.1++([]:List (Int))).length)]),(1,[sl none 0 0]),(1,[sl gj1.2.2.1 ((j1.2.2.2.1).length) ((j1.2.2.2.1++([]:List (Str))).length)]),(1,[vs j1.2.2.2.2.1]),(1,[sl gj1.2.2.2.1 ((j1.2.2.2.2.2.1).length) ((j1.2.2.2.2.2.1++([]:List (Str))).length)]),(1,[vs j1.2.2.2.2.2.2.1]),(1,[vi 0]),(1,[vs ([]:Str)]),(1,[sl gj1.2.2.2.2 ((j1.2.2.2.2.2.2.2).length) ((j1.2.2.2.2.2.2.2++([]:List (Str × Str × Int × Int × Int × Int))).length)]),(1,[vs ([]:Str)]),(1,[vi 1000]),(1,[vi 0]),(1,[vi 10]),(1,[vi 33290])]) ⟨Src.own (j:=0) rfl,Src.own (j:=1) rfl,Src.own (j:=3) rfl,Src.own (j:=4) rfl,Src.own (j:=6) rfl,Src.own (j:=7) rfl,Src.own (j:=9) rfl,Src.own (j:=10) rfl,Src.own (j:=11) rfl,Src.own (j:=12) rfl,Src.own (j:=14) rfl,Src.own (j:=15) rfl,Src.own (j:=16) rfl,Src.own (j:=17) rfl,Src.own (j:=18) rfl,trivial⟩)) isAgg26 inf26 rfl (flat_len ⟨rfl,rfl,rfl,rfl,rfl,rfl,rfl,rfl,rfl,rfl,rfl,rfl,rfl,rfl,rfl,trivial⟩ rfl)) ?_))
         refine TL_none ?_
         obtain ⟨r_33,hr_33,H⟩:=bind_elim H
         refine TLe (E_c0 (F16_calls (some (gj1.1,0)) ((j1.2.1++([]:List (Int))).length) none 0 gj1.2.2.1 ((j1.2.2.2.1++([]:List (Str))).length) gj1.2.2.2.1 ((j1.2.2.2.2.2.1++([]:List (Str))).length) gj1.2.2.2.2 ((j1.2.2.2.2.2.2.2++([]:List (Str × Str × Int × Int × Int × Int))).length) j1.1 j1.2.1 ([]:List (Int)) j1.2.2.2.1 j1.2.2.2.2.1 j1.2.2.2.2.2.1 j1.2.2.2.2.2.2.1 0 ([]:Str) j1.2.2.2.2.2.2.2 ([]:Str) 1000 0 10 33290 (row_le _ _) (by first | exact Nat.le_refl _ | simp) (row_le _ _) (row_le _ _) (row_le _ _) r_33 hr_33) call16 ⟨(srcdRow (.o 3)),(srcdE rfl),(srcdRow (.o 6)),(srcdRow (.o 9)),(srcdRowF (s:=6) (fun _=>rfl) (.o 14)),trivial⟩) (fun g_33=>?_)
         refine TVm ?_
         refine TLv (V_bin rfl rfl (fun w=>eqlB w r_33 server underlying4)) ?_
         refine TVm ?_
         obtain ⟨j9,Hj,H⟩:=bind_elim H
         refine TL_join (Γ:=Unit) (fun gj9=>[(6,vb j9)]) (fun gj9=>[]) ?_ ?_
         ·intro gj9
          refine TX_next (TC_ret (TX_then_ret ?_))
          obtain rfl:=sj H
          exact TX1
         ·intro hJ
          replace H:=Hj
          refine TFb (d:=134) H (fun hc H=>?_) (fun hc H=>?_)
          ·obtain ⟨r_34,hr_34,H⟩:=bind_elim H
           refine TLu (E_call (Γ:=Nat × Nat × Adr × Adr × Adr) (val:=fun g=>aG [(1,[vb false]),(1,[sl (some (g.1,0)) ((r_34.2.1).length) ((r_34.2.1++([]:List (Int))).length)]),(1,[sl (some (g.2.1,0)) ((r_34.2.2.1).length) ((r_34.2.2.1++([]:List (Int))).length)]),(1,[sl g.2.2.1 ((r_34.2.2.2.1).length) ((r_34.2.2.2.1++([]:List (Str))).length)]),(1,[vs ([]:Str)]),(1,[sl g.2.2.2.1 ((r_34.2.2.2.2.1).length) ((r_34.2.2.2.2.1++([]:List (Str))).length)]),(1,[vs r_34.1]),(1,[vi 0]),(1,[vs ([]:Str)]),(1,[sl g.2.2.2.2 ((r_34.2.2.2.2.2).length) ((r_34.2.2.2.2.2++([]:List (Str × Str × Int × Int × Int × Int))).length)]),(1,[vs ([]:Str)]),(1,[vi 1000]),(1,[vi 0]),(1,[vi 10]),(1,[vi 33290])]) (mem:=fun g=>[⟨some (g.1,0),eI (r_34.2.1++([]:List (Int)))⟩,⟨some (g.2.1,0),eI (r_34.2.2.1++([]:List (Int)))⟩,⟨g.2.2.1,eS (r_34.2.2.2.1++([]:List (Str)))⟩,⟨g.2.2.2.1,eS (r_34.2.2.2.2.1++([]:List (Str)))⟩,⟨g.2.2.2.2,eF (fun p:Str × Str × Int × Int × Int × Int=>[vs p.1,vs p.2.1,vi p.2.2.1,vi p.2.2.2.1,vi p.2.2.2.2.1,vi p.2.2.2.2.2]) (r_34.2.2.2.2.2++([]:List (Str × Str × Int × Int × Int × Int)))⟩]) (vs:=[]) (Lin:=[]) (Ro:=[]) (is:=[]) rfl call24 (F24_calls r_34 hr_34) rfl trivial) (fun g_34=>?_)
           obtain ⟨r_35,hr_35,H⟩:=bind_elim H
           refine TLu (E_c0 (F16_calls (some (g_34.1,0)) ((r_34.2.1++([]:List (Int))).length) (some (g_34.2.1,0)) ((r_34.2.2.1++([]:List (Int))).length) g_34.2.2.1 ((r_34.2.2.2.1++([]:List (Str))).length) g_34.2.2.2.1 ((r_34.2.2.2.2.1++([]:List (Str))).length) g_34.2.2.2.2 ((r_34.2.2.2.2.2++([]:List (Str × Str × Int × Int × Int × Int))).length) false r_34.2.1 r_34.2.2.1 r_34.2.2.2.1 ([]:Str) r_34.2.2.2.2.1 r_34.1 0 ([]:Str) r_34.2.2.2.2.2 ([]:Str) 1000 0 10 33290 (row_le _ _) (row_le _ _) (row_le _ _) (row_le _ _) (row_le _ _) r_35 hr_35) call16 ⟨(srcdRow (.o 0)),(srcdRow (.o 1)),(srcdRow (.o 2)),(srcdRow (.o 3)),(srcdRowF (s:=6) (fun _=>rfl) (.o 4)),trivial⟩) (fun g_35=>?_)
           refine TVt ?_
           refine TVm ?_
           refine TFb (d:=138) H (fun hc H=>?_) (fun hc H=>?_)
           ·obtain ⟨r_36,hr_36,H⟩:=bind_elim H
            refine TLu (E_call (Γ:=Nat × Nat × Nat × Adr × Adr) (val:=fun g=>aG [(1,[vb true]),(1,[sl (some (g.1,0)) ((r_36.2.1).length) ((r_36.2.1++([]:List (Int))).length)]),(1,[sl (some (g.2.1,0)) ((r_36.2.2.1).length) ((r_36.2.2.1++([]:List (Int))).length)]),(1,[sl (some (g.2.2.1,0)) ((r_36.2.2.2.1).length) ((r_36.2.2.2.1++([]:List (Str))).length)]),(1,[vs r_36.1]),(1,[sl g.2.2.2.1 ((r_36.2.2.2.2.1).length) ((r_36.2.2.2.2.1++([]:List (Str))).length)]),(1,[vs ([]:Str)]),(1,[vi 0]),(1,[vs ([]:Str)]),(1,[sl g.2.2.2.2 ((r_36.2.2.2.2.2).length) ((r_36.2.2.2.2.2++([]:List (Str × Str × Int × Int × Int × Int))).length)]),(1,[vs ([]:Str)]),(1,[vi 1000]),(1,[vi 0]),(1,[vi 10]),(1,[vi 33290])]) (mem:=fun g=>[⟨some (g.1,0),eI (r_36.2.1++([]:List (Int)))⟩,⟨some (g.2.1,0),eI (r_36.2.2.1++([]:List (Int)))⟩,⟨some (g.2.2.1,0),eS (r_36.2.2.2.1++([]:List (Str)))⟩,⟨g.2.2.2.1,eS (r_36.2.2.2.2.1++([]:List (Str)))⟩,⟨g.2.2.2.2,eF (fun p:Str × Str × Int × Int × Int × Int=>[vs p.1,vs p.2.1,vi p.2.2.1,vi p.2.2.2.1,vi p.2.2.2.2.1,vi p.2.2.2.2.2]) (r_36.2.2.2.2.2++([]:List (Str × Str × Int × Int × Int × Int)))⟩]) (vs:=[]) (Lin:=[]) (Ro:=[]) (is:=[]) rfl call25 (F25_calls r_36 hr_36) rfl trivial) (fun g_36=>?_)
            obtain ⟨r_37,hr_37,H⟩:=bind_elim H
            refine TLu (E_c0 (F16_calls (some (g_36.1,0)) ((r_36.2.1++([]:List (Int))).length) (some (g_36.2.1,0)) ((r_36.2.2.1++([]:List (Int))).length) (some (g_36.2.2.1,0)) ((r_36.2.2.2.1++([]:List (Str))).length) g_36.2.2.2.1 ((r_36.2.2.2.2.1++([]:List (Str))).length) g_36.2.2.2.2 ((r_36.2.2.2.2.2++([]:List (Str × Str × Int × Int × Int × Int))).length) true r_36.2.1 r_36.2.2.1 r_36.2.2.2.1 r_36.1 r_36.2.2.2.2.1 ([]:Str) 0 ([]:Str) r_36.2.2.2.2.2 ([]:Str) 1000 0 10 33290 (row_le _ _) (row_le _ _) (row_le _ _) (row_le _ _) (row_le _ _) r_37 hr_37) call16 ⟨(srcdRow (.o 0)),(srcdRow (.o 1)),(srcdRow (.o 2)),(srcdRow (.o 3)),(srcdRowF (s:=6) (fun _=>rfl) (.o 4)),trivial⟩) (fun g_37=>?_)
            refine TVt ?_
            refine TVa ?_
            refine TL_nil ?_
            obtain rfl:=sj H
            exact TXj [] (hJ ())
           ·refine TLs ?_
            refine TLs ?_
            refine TVf ?_
            refine TVa ?_
            refine TL_nil ?_
            obtain rfl:=sj H
            exact TXj [] (hJ ())
          ·refine TLs ?_
           refine TLs ?_
           refine TVf ?_
           refine TVm ?_
           refine TLs ?_
           refine TLs ?_
           refine TVf ?_
           refine TVa ?_
           refine TL_nil ?_
           obtain rfl:=sj H
           exact TXj [] (hJ ())
        ·refine TC_skip (TX_next (TC_seq (TC_region (TLv (V_loadAgg (n:=15) (cs:=flat [(1,[vb j1.1]),(1,[sl (some (gj1.1,0)) ((j1.2.1).length) ((j1.2.1++([]:List (Int))).length)]),(1,[sl none 0 0]),(1,[sl gj1.2.2.1 ((j1.2.2.2.1).length) ((j1.2.2.2.1++([]:List (Str))).length)]),(1,[vs j1.2.2.2.2.1]),(1,[sl gj1.2.2.2.1 ((j1.2.2.2.2.2.1).length) ((j1.2.2.2.2.2.1++([]:List (Str))).length)]),(1,[vs j1.2.2.2.2.2.2.1]),(1,[vi 0]),(1,[vs ([]:Str)]),(1,[sl gj1.2.2.2.2 ((j1.2.2.2.2.2.2.2).length) ((j1.2.2.2.2.2.2.2++([]:List (Str × Str × Int × Int × Int × Int))).length)]),(1,[vs ([]:Str)]),(1,[vi 1000]),(1,[vi 0]),(1,[vi 10]),(1,[vi 33290])]) rfl (by simp) (SrcEnts (b:=b1) [(1,[vb j1.1]),(1,[sl (some (gj1.1,0)) ((j1.2.1).length) ((j1.2.1++([]:List (Int))).length)]),(1,[sl none 0 0]),(1,[sl gj1.2.2.1 ((j1.2.2.2.1).length) ((j1.2.2.2.1++([]:List (Str))).length)]),(1,[vs j1.2.2.2.2.1]),(1,[sl gj1.2.2.2.1 ((j1.2.2.2.2.2.1).length) ((j1.2.2.2.2.2.1++([]:List (Str))).length)]),(1,[vs j1.2.2.2.2.2.2.1]),(1,[vi 0]),(1,[vs ([]:Str)]),(1,[sl gj1.2.2.2.2 ((j1.2.2.2.2.2.2.2).length) ((j1.2.2.2.2.2.2.2++([]:List (Str × Str × Int × Int × Int × Int))).length)]),(1,[vs ([]:Str)]),(1,[vi 1000]),(1,[vi 0]),(1,[vi 10]),(1,[vi 33290])] 0 ⟨rfl,rfl,rfl,rfl,rfl,rfl,rfl,rfl,rfl,rfl,rfl,rfl,rfl,rfl,rfl,trivial⟩ (AllSrc.all (M:=ents b1 0 [(1,[vb j1.1]),(1,[sl (some (gj1.1,0)) ((j1.2.1).length) ((j1.2.1++([]:List (Int))).length)]),(1,[sl none 0 0]),(1,[sl gj1.2.2.1 ((j1.2.2.2.1).length) ((j1.2.2.2.1++([]:List (Str))).length)]),(1,[vs j1.2.2.2.2.1]),(1,[sl gj1.2.2.2.1 ((j1.2.2.2.2.2.1).length) ((j1.2.2.2.2.2.1++([]:List (Str))).length)]),(1,[vs j1.2.2.2.2.2.2.1]),(1,[vi 0]),(1,[vs ([]:Str)]),(1,[sl gj1.2.2.2.2 ((j1.2.2.2.2.2.2.2).length) ((j1.2.2.2.2.2.2.2++([]:List (Str × Str × Int × Int × Int × Int))).length)]),(1,[vs ([]:Str)]),(1,[vi 1000]),(1,[vi 0]),(1,[vi 10]),(1,[vi 33290])]) ⟨Src.own (j:=0) rfl,Src.own (j:=1) rfl,Src.own (j:=3) rfl,Src.own (j:=4) rfl,Src.own (j:=6) rfl,Src.own (j:=7) rfl,Src.own (j:=9) rfl,Src.own (j:=10) rfl,Src.own (j:=11) rfl,Src.own (j:=12) rfl,Src.own (j:=14) rfl,Src.own (j:=15) rfl,Src.own (j:=16) rfl,Src.own (j:=17) rfl,Src.own (j:=18) rfl,trivial⟩)) isAgg26 inf26 rfl (flat_len ⟨rfl,rfl,rfl,rfl,rfl,rfl,rfl,rfl,rfl,rfl,rfl,rfl,rfl,rfl,rfl,trivial⟩ rfl)) ?_))))
         refine TL_none ?_
         obtain ⟨r_38,hr_38,H⟩:=bind_elim H
         refine TLe (E_c0 (F16_calls (some (gj1.1,0)) ((j1.2.1++([]:List (Int))).length) none 0 gj1.2.2.1 ((j1.2.2.2.1++([]:List (Str))).length) gj1.2.2.2.1 ((j1.2.2.2.2.2.1++([]:List (Str))).length) gj1.2.2.2.2 ((j1.2.2.2.2.2.2.2++([]:List (Str × Str × Int × Int × Int × Int))).length) j1.1 j1.2.1 ([]:List (Int)) j1.2.2.2.1 j1.2.2.2.2.1 j1.2.2.2.2.2.1 j1.2.2.2.2.2.2.1 0 ([]:Str) j1.2.2.2.2.2.2.2 ([]:Str) 1000 0 10 33290 (row_le _ _) (by first | exact Nat.le_refl _ | simp) (row_le _ _) (row_le _ _) (row_le _ _) r_38 hr_38) call16 ⟨(srcdRow (.o 3)),(srcdE rfl),(srcdRow (.o 6)),(srcdRow (.o 9)),(srcdRowF (s:=6) (fun _=>rfl) (.o 14)),trivial⟩) (fun g_38=>?_)
         refine TLv (V_un rfl (fun w=>notB w r_38)) ?_
         refine TVm ?_
         refine TFb (d:=145) H (fun hc H=>?_) (fun hc H=>?_)
         ·obtain ⟨r_39,hr_39,H⟩:=bind_elim H
          refine TLu (E_call (Γ:=Nat × Nat × Adr × Adr × Adr) (val:=fun g=>aG [(1,[vb false]),(1,[sl (some (g.1,0)) ((r_39.2.1).length) ((r_39.2.1++([]:List (Int))).length)]),(1,[sl (some (g.2.1,0)) ((r_39.2.2.1).length) ((r_39.2.2.1++([]:List (Int))).length)]),(1,[sl g.2.2.1 ((r_39.2.2.2.1).length) ((r_39.2.2.2.1++([]:List (Str))).length)]),(1,[vs ([]:Str)]),(1,[sl g.2.2.2.1 ((r_39.2.2.2.2.1).length) ((r_39.2.2.2.2.1++([]:List (Str))).length)]),(1,[vs r_39.1]),(1,[vi 0]),(1,[vs ([]:Str)]),(1,[sl g.2.2.2.2 ((r_39.2.2.2.2.2).length) ((r_39.2.2.2.2.2++([]:List (Str × Str × Int × Int × Int × Int))).length)]),(1,[vs ([]:Str)]),(1,[vi 1000]),(1,[vi 0]),(1,[vi 10]),(1,[vi 33290])]) (mem:=fun g=>[⟨some (g.1,0),eI (r_39.2.1++([]:List (Int)))⟩,⟨some (g.2.1,0),eI (r_39.2.2.1++([]:List (Int)))⟩,⟨g.2.2.1,eS (r_39.2.2.2.1++([]:List (Str)))⟩,⟨g.2.2.2.1,eS (r_39.2.2.2.2.1++([]:List (Str)))⟩,⟨g.2.2.2.2,eF (fun p:Str × Str × Int × Int × Int × Int=>[vs p.1,vs p.2.1,vi p.2.2.1,vi p.2.2.2.1,vi p.2.2.2.2.1,vi p.2.2.2.2.2]) (r_39.2.2.2.2.2++([]:List (Str × Str × Int × Int × Int × Int)))⟩]) (vs:=[]) (Lin:=[]) (Ro:=[]) (is:=[]) rfl call24 (F24_calls r_39 hr_39) rfl trivial) (fun g_39=>?_)
          obtain ⟨r_40,hr_40,H⟩:=bind_elim H
          refine TLu (E_c0 (F16_calls (some (g_39.1,0)) ((r_39.2.1++([]:List (Int))).length) (some (g_39.2.1,0)) ((r_39.2.2.1++([]:List (Int))).length) g_39.2.2.1 ((r_39.2.2.2.1++([]:List (Str))).length) g_39.2.2.2.1 ((r_39.2.2.2.2.1++([]:List (Str))).length) g_39.2.2.2.2 ((r_39.2.2.2.2.2++([]:List (Str × Str × Int × Int × Int × Int))).length) false r_39.2.1 r_39.2.2.1 r_39.2.2.2.1 ([]:Str) r_39.2.2.2.2.1 r_39.1 0 ([]:Str) r_39.2.2.2.2.2 ([]:Str) 1000 0 10 33290 (row_le _ _) (row_le _ _) (row_le _ _) (row_le _ _) (row_le _ _) r_40 hr_40) call16 ⟨(srcdRow (.o 0)),(srcdRow (.o 1)),(srcdRow (.o 2)),(srcdRow (.o 3)),(srcdRowF (s:=6) (fun _=>rfl) (.o 4)),trivial⟩) (fun g_40=>?_)
          refine TVt ?_
          refine TVm ?_
          refine TFb (d:=149) H (fun hc H=>?_) (fun hc H=>?_)
          ·obtain ⟨r_41,hr_41,H⟩:=bind_elim H
           refine TLu (E_call (Γ:=Nat × Nat × Nat × Adr × Adr) (val:=fun g=>aG [(1,[vb true]),(1,[sl (some (g.1,0)) ((r_41.2.1).length) ((r_41.2.1++([]:List (Int))).length)]),(1,[sl (some (g.2.1,0)) ((r_41.2.2.1).length) ((r_41.2.2.1++([]:List (Int))).length)]),(1,[sl (some (g.2.2.1,0)) ((r_41.2.2.2.1).length) ((r_41.2.2.2.1++([]:List (Str))).length)]),(1,[vs r_41.1]),(1,[sl g.2.2.2.1 ((r_41.2.2.2.2.1).length) ((r_41.2.2.2.2.1++([]:List (Str))).length)]),(1,[vs ([]:Str)]),(1,[vi 0]),(1,[vs ([]:Str)]),(1,[sl g.2.2.2.2 ((r_41.2.2.2.2.2).length) ((r_41.2.2.2.2.2++([]:List (Str × Str × Int × Int × Int × Int))).length)]),(1,[vs ([]:Str)]),(1,[vi 1000]),(1,[vi 0]),(1,[vi 10]),(1,[vi 33290])]) (mem:=fun g=>[⟨some (g.1,0),eI (r_41.2.1++([]:List (Int)))⟩,⟨some (g.2.1,0),eI (r_41.2.2.1++([]:List (Int)))⟩,⟨some (g.2.2.1,0),eS (r_41.2.2.2.1++([]:List (Str)))⟩,⟨g.2.2.2.1,eS (r_41.2.2.2.2.1++([]:List (Str)))⟩,⟨g.2.2.2.2,eF (fun p:Str × Str × Int × Int × Int × Int=>[vs p.1,vs p.2.1,vi p.2.2.1,vi p.2.2.2.1,vi p.2.2.2.2.1,vi p.2.2.2.2.2]) (r_41.2.2.2.2.2++([]:List (Str × Str × Int × Int × Int × Int)))⟩]) (vs:=[]) (Lin:=[]) (Ro:=[]) (is:=[]) rfl call25 (F25_calls r_41 hr_41) rfl trivial) (fun g_41=>?_)
           obtain ⟨r_42,hr_42,H⟩:=bind_elim H
           refine TLu (E_c0 (F16_calls (some (g_41.1,0)) ((r_41.2.1++([]:List (Int))).length) (some (g_41.2.1,0)) ((r_41.2.2.1++([]:List (Int))).length) (some (g_41.2.2.1,0)) ((r_41.2.2.2.1++([]:List (Str))).length) g_41.2.2.2.1 ((r_41.2.2.2.2.1++([]:List (Str))).length) g_41.2.2.2.2 ((r_41.2.2.2.2.2++([]:List (Str × Str × Int × Int × Int × Int))).length) true r_41.2.1 r_41.2.2.1 r_41.2.2.2.1 r_41.1 r_41.2.2.2.2.1 ([]:Str) 0 ([]:Str) r_41.2.2.2.2.2 ([]:Str) 1000 0 10 33290 (row_le _ _) (row_le _ _) (row_le _ _) (row_le _ _) (row_le _ _) r_42 hr_42) call16 ⟨(srcdRow (.o 0)),(srcdRow (.o 1)),(srcdRow (.o 2)),(srcdRow (.o 3)),(srcdRowF (s:=6) (fun _=>rfl) (.o 4)),trivial⟩) (fun g_42=>?_)
           refine TVt ?_
           refine TVa ?_
           refine TL_nil (TX_next (TC.sub (m':=[(6,_)]) ⟨rfl,trivial⟩ ?_))
           refine TC.pull (is:=[]) (L':=[]) rfl ?_
           refine TC_ret ?_
           obtain rfl:=sj H
           exact TX1
          ·refine TLs ?_
           refine TLs ?_
           refine TVf ?_
           refine TVa ?_
           refine TL_nil (TX_next (TC.sub (m':=[(6,_)]) ⟨rfl,trivial⟩ ?_))
           refine TC.pull (is:=[]) (L':=[]) rfl ?_
           refine TC_ret ?_
           obtain rfl:=sj H
           exact TX1
         ·refine TLs ?_
          refine TLs ?_
          refine TVf ?_
          refine TVm ?_
          refine TLs ?_
          refine TLs ?_
          refine TVf ?_
          refine TVa ?_
          refine TL_nil (TX_next (TC_ret ?_))
          obtain rfl:=sj H
          exact TX1
       ·intro hJ
        replace H:=Hj
        refine TFd (d:=125) H (fun hc H=>?_) (fun hc H=>?_)
        ·refine TLw (V_move rfl) ?_
         refine TLw (V_bin rfl rfl (fun w=>andI w d1 31)) ?_
         refine TLw (V_bin rfl rfl (fun w=>eqlI w (iop (· &&& ·) d1 31) 0)) ?_
         refine TVt ?_
         refine TL_nil ?_
         obtain rfl:=sj H
         exact TXj [0,0,0,0,1,1,1,1,1,1,1,1,1,1,1,1,1,1,1] (hJ ())
        ·refine TLs ?_
         refine TLs ?_
         refine TLs ?_
         refine TVf ?_
         refine TL_nil ?_
         obtain rfl:=sj H
         exact TXj [0,0,0,0,1,1,1,1,1,1,1,1,1,1,1,1,1,1,1] (hJ ())
      ·refine TC_seq (TC_region (TLv (V_bin rfl rfl (fun w=>eql64 w ((BitVec.ofInt 64 which) % 20#64) 4#64)) ?_))
       refine TVa ?_
       obtain ⟨x5,hx5,H⟩:=ltt_elim H
       refine TLr 41 (congrArg vb hx5) ?_
       refine TL_nil (TX_next ?_)
       obtain ⟨j10,Hj,H⟩:=bind_elim H
       refine TC_join (Γ:=Nat × Adr × List (Str) × Adr) (fun gj10=>[(0,vi which),(2,vb server),(7,ptr (some (b1,0)) 0),(8,vi d1)]) (fun gj10=>[⟨some (b1,0),[vb j10.1]⟩,⟨some (b1,1),[sl (some (gj1.1,0)) ((j1.2.1).length) ((j1.2.1++([]:List (Int))).length)]⟩,⟨some (gj1.1,0),eI (j1.2.1++([]:List (Int)))⟩,⟨some (b1,2),[sl (some (gj10.1,0)) ((j10.2.1).length) ((j10.2.1++([]:List (Int))).length)]⟩,⟨some (gj10.1,0),eI (j10.2.1++([]:List (Int)))⟩,⟨some (b1,3),[sl gj10.2.1 ((j10.2.2.1).length) ((j10.2.2.1++gj10.2.2.1).length)]⟩,⟨gj10.2.1,eS (j10.2.2.1++gj10.2.2.1)⟩,⟨some (b1,4),[vs j1.2.2.2.2.1]⟩,⟨some (b1,5),[sl gj10.2.2.2 ((j10.2.2.2.1).length) ((j10.2.2.2.1++([]:List (Str))).length)]⟩,⟨gj10.2.2.2,eS (j10.2.2.2.1++([]:List (Str)))⟩,⟨some (b1,6),[vs j1.2.2.2.2.2.2.1]⟩,⟨some (b1,7),[vi j10.2.2.2.2.1]⟩,⟨some (b1,8),[vs j10.2.2.2.2.2.1]⟩,⟨some (b1,9),[sl gj1.2.2.2.2 ((j1.2.2.2.2.2.2.2).length) ((j1.2.2.2.2.2.2.2++([]:List (Str × Str × Int × Int × Int × Int))).length)]⟩,⟨gj1.2.2.2.2,eF (fun p:Str × Str × Int × Int × Int × Int=>[vs p.1,vs p.2.1,vi p.2.2.1,vi p.2.2.2.1,vi p.2.2.2.2.1,vi p.2.2.2.2.2]) (j1.2.2.2.2.2.2.2++([]:List (Str × Str × Int × Int × Int × Int)))⟩,⟨some (b1,10),[vs j10.2.2.2.2.2.2.1]⟩,⟨some (b1,11),[vi j10.2.2.2.2.2.2.2.1]⟩,⟨some (b1,12),[vi j10.2.2.2.2.2.2.2.2.1]⟩,⟨some (b1,13),[vi j10.2.2.2.2.2.2.2.2.2.1]⟩,⟨some (b1,14),[vi j10.2.2.2.2.2.2.2.2.2.2]⟩]) ?_ ?_
       ·intro gj10
        refine TX_block_normal (TX_next (TC_seq (TC_seq (TC_region (TVm ?_)))))
        refine TLv (V_conv rfl (fun w=>cvI64 w _ _ underlying53 (und3) .i64 which)) ?_
        refine TLv (V_bin rfl rfl (fun w=>rem64 w (BitVec.ofInt 64 which) 20#64 (by decide))) ?_
        refine TLv (V_bin rfl rfl (fun w=>eql64 w ((BitVec.ofInt 64 which) % 20#64) 17#64)) ?_
        refine TVm ?_
        obtain ⟨j11,Hj,H⟩:=bind_elim H
        refine TL_join (Γ:=Unit) (fun gj11=>[(2,vb server),(7,ptr (some (b1,0)) 0),(129,vb j11)]) (fun gj11=>[⟨some (b1,0),[vb j10.1]⟩,⟨some (b1,1),[sl (some (gj1.1,0)) ((j1.2.1).length) ((j1.2.1++([]:List (Int))).length)]⟩,⟨some (gj1.1,0),eI (j1.2.1++([]:List (Int)))⟩,⟨some (b1,2),[sl (some (gj10.1,0)) ((j10.2.1).length) ((j10.2.1++([]:List (Int))).length)]⟩,⟨some (gj10.1,0),eI (j10.2.1++([]:List (Int)))⟩,⟨some (b1,3),[sl gj10.2.1 ((j10.2.2.1).length) ((j10.2.2.1++gj10.2.2.1).length)]⟩,⟨gj10.2.1,eS (j10.2.2.1++gj10.2.2.1)⟩,⟨some (b1,4),[vs j1.2.2.2.2.1]⟩,⟨some (b1,5),[sl gj10.2.2.2 ((j10.2.2.2.1).length) ((j10.2.2.2.1++([]:List (Str))).length)]⟩,⟨gj10.2.2.2,eS (j10.2.2.2.1++([]:List (Str)))⟩,⟨some (b1,6),[vs j1.2.2.2.2.2.2.1]⟩,⟨some (b1,7),[vi j10.2.2.2.2.1]⟩,⟨some (b1,8),[vs j10.2.2.2.2.2.1]⟩,⟨some (b1,9),[sl gj1.2.2.2.2 ((j1.2.2.2.2.2.2.2).length) ((j1.2.2.2.2.2.2.2++([]:List (Str × Str × Int × Int × Int × Int))).length)]⟩,⟨gj1.2.2.2.2,eF (fun p:Str × Str × Int × Int × Int × Int=>[vs p.1,vs p.2.1,vi p.2.2.1,vi p.2.2.2.1,vi p.2.2.2.2.1,vi p.2.2.2.2.2]) (j1.2.2.2.2.2.2.2++([]:List (Str × Str × Int × Int × Int × Int)))⟩,⟨some (b1,10),[vs j10.2.2.2.2.2.2.1]⟩,⟨some (b1,11),[vi j10.2.2.2.2.2.2.2.1]⟩,⟨some (b1,12),[vi j10.2.2.2.2.2.2.2.2.1]⟩,⟨some (b1,13),[vi j10.2.2.2.2.2.2.2.2.2.1]⟩,⟨some (b1,14),[vi j10.2.2.2.2.2.2.2.2.2.2]⟩]) ?_ ?_
        ·intro gj11
         refine TX_next (TCb H (fun hc H=>?_) (fun hc H=>?_))
         ·refine TC_seq (TC_region (TLv (V_loadAgg (n:=15) (cs:=flat [(1,[vb j10.1]),(1,[sl (some (gj1.1,0)) ((j1.2.1).length) ((j1.2.1++([]:List (Int))).length)]),(1,[sl (some (gj10.1,0)) ((j10.2.1).length) ((j10.2.1++([]:List (Int))).length)]),(1,[sl gj10.2.1 ((j10.2.2.1).length) ((j10.2.2.1++gj10.2.2.1).length)]),(1,[vs j1.2.2.2.2.1]),(1,[sl gj10.2.2.2 ((j10.2.2.2.1).length) ((j10.2.2.2.1++([]:List (Str))).length)]),(1,[vs j1.2.2.2.2.2.2.1]),(1,[vi j10.2.2.2.2.1]),(1,[vs j10.2.2.2.2.2.1]),(1,[sl gj1.2.2.2.2 ((j1.2.2.2.2.2.2.2).length) ((j1.2.2.2.2.2.2.2++([]:List (Str × Str × Int × Int × Int × Int))).length)]),(1,[vs j10.2.2.2.2.2.2.1]),(1,[vi j10.2.2.2.2.2.2.2.1]),(1,[vi j10.2.2.2.2.2.2.2.2.1]),(1,[vi j10.2.2.2.2.2.2.2.2.2.1]),(1,[vi j10.2.2.2.2.2.2.2.2.2.2])]) rfl (by simp) (SrcEnts (b:=b1) [(1,[vb j10.1]),(1,[sl (some (gj1.1,0)) ((j1.2.1).length) ((j1.2.1++([]:List (Int))).length)]),(1,[sl (some (gj10.1,0)) ((j10.2.1).length) ((j10.2.1++([]:List (Int))).length)]),(1,[sl gj10.2.1 ((j10.2.2.1).length) ((j10.2.2.1++gj10.2.2.1).length)]),(1,[vs j1.2.2.2.2.1]),(1,[sl gj10.2.2.2 ((j10.2.2.2.1).length) ((j10.2.2.2.1++([]:List (Str))).length)]),(1,[vs j1.2.2.2.2.2.2.1]),(1,[vi j10.2.2.2.2.1]),(1,[vs j10.2.2.2.2.2.1]),(1,[sl gj1.2.2.2.2 ((j1.2.2.2.2.2.2.2).length) ((j1.2.2.2.2.2.2.2++([]:List (Str × Str × Int × Int × Int × Int))).length)]),(1,[vs j10.2.2.2.2.2.2.1]),(1,[vi j10.2.2.2.2.2.2.2.1]),(1,[vi j10.2.2.2.2.2.2.2.2.1]),(1,[vi j10.2.2.2.2.2.2.2.2.2.1]),(1,[vi j10.2.2.2.2.2.2.2.2.2.2])] 0 ⟨rfl,rfl,rfl,rfl,rfl,rfl,rfl,rfl,rfl,rfl,rfl,rfl,rfl,rfl,rfl,trivial⟩ (AllSrc.all (M:=ents b1 0 [(1,[vb j10.1]),(1,[sl (some (gj1.1,0)) ((j1.2.1).length) ((j1.2.1++([]:List (Int))).length)]),(1,[sl (some (gj10.1,0)) ((j10.2.1).length) ((j10.2.1++([]:List (Int))).length)]),(1,[sl gj10.2.1 ((j10.2.2.1).length) ((j10.2.2.1++gj10.2.2.1).length)]),(1,[vs j1.2.2.2.2.1]),(1,[sl gj10.2.2.2 ((j10.2.2.2.1).length) ((j10.2.2.2.1++([]:List (Str))).length)]),(1,[vs j1.2.2.2.2.2.2.1]),(1,[vi j10.2.2.2.2.1]),(1,[vs j10.2.2.2.2.2.1]),(1,[sl gj1.2.2.2.2 ((j1.2.2.2.2.2.2.2).length) ((j1.2.2.2.2.2.2.2++([]:List (Str × Str × Int × Int × Int × Int))).length)]),(1,[vs j10.2.2.2.2.2.2.1]),(1,[vi j10.2.2.2.2.2.2.2.1]),(1,[vi j10.2.2.2.2.2.2.2.2.1]),(1,[vi j10.2.2.2.2.2.2.2.2.2.1]),(1,[vi j10.2.2.2.2.2.2.2.2.2.2])]) ⟨Src.own (j:=0) rfl,Src.own (j:=1) rfl,Src.own (j:=3) rfl,Src.own (j:=5) rfl,Src.own (j:=7) rfl,Src.own (j:=8) rfl,Src.own (j:=10) rfl,Src.own (j:=11) rfl,Src.own (j:=12) rfl,Src.own (j:=13) rfl,Src.own (j:=15) rfl,Src.own (j:=16) rfl,Src.own (j:=17) rfl,Src.own (j:=18) rfl,Src.own (j:=19) rfl,trivial⟩)) isAgg26 inf26 rfl (flat_len ⟨rfl,rfl,rfl,rfl,rfl,rfl,rfl,rfl,rfl,rfl,rfl,rfl,rfl,rfl,rfl,trivial⟩ rfl)) ?_))
          obtain ⟨r_43,hr_43,H⟩:=bind_elim H
          refine TLe (E_c0 (F16_calls (some (gj1.1,0)) ((j1.2.1++([]:List (Int))).length) (some (gj10.1,0)) ((j10.2.1++([]:List (Int))).length) gj10.2.1 ((j10.2.2.1++gj10.2.2.1).length) gj10.2.2.2 ((j10.2.2.2.1++([]:List (Str))).length) gj1.2.2.2.2 ((j1.2.2.2.2.2.2.2++([]:List (Str × Str × Int × Int × Int × Int))).length) j10.1 j1.2.1 j10.2.1 j10.2.2.1 j1.2.2.2.2.1 j10.2.2.2.1 j1.2.2.2.2.2.2.1 j10.2.2.2.2.1 j10.2.2.2.2.2.1 j1.2.2.2.2.2.2.2 j10.2.2.2.2.2.2.1 j10.2.2.2.2.2.2.2.1 j10.2.2.2.2.2.2.2.2.1 j10.2.2.2.2.2.2.2.2.2.1 j10.2.2.2.2.2.2.2.2.2.2 (row_le _ _) (row_le _ _) (row_le _ _) (row_le _ _) (row_le _ _) r_43 hr_43) call16 ⟨(srcdRow (.o 2)),(srcdRow (.o 4)),(srcdRow (.o 6)),(srcdRow (.o 9)),(srcdRowF (s:=6) (fun _=>rfl) (.o 14)),trivial⟩) (fun g_43=>?_)
          refine TVm ?_
          refine TLv (V_bin rfl rfl (fun w=>eqlB w r_43 server underlying4)) ?_
          refine TVm ?_
          obtain ⟨j12,Hj,H⟩:=bind_elim H
          refine TL_join (Γ:=Unit) (fun gj12=>[(6,vb j12)]) (fun gj12=>[]) ?_ ?_
          ·intro gj12
           refine TX_next (TC_ret (TX_then_ret ?_))
           obtain rfl:=sj H
           exact TX1
          ·intro hJ
           replace H:=Hj
           refine TFb (d:=134) H (fun hc H=>?_) (fun hc H=>?_)
           ·obtain ⟨r_44,hr_44,H⟩:=bind_elim H
            refine TLu (E_call (Γ:=Nat × Nat × Adr × Adr × Adr) (val:=fun g=>aG [(1,[vb false]),(1,[sl (some (g.1,0)) ((r_44.2.1).length) ((r_44.2.1++([]:List (Int))).length)]),(1,[sl (some (g.2.1,0)) ((r_44.2.2.1).length) ((r_44.2.2.1++([]:List (Int))).length)]),(1,[sl g.2.2.1 ((r_44.2.2.2.1).length) ((r_44.2.2.2.1++([]:List (Str))).length)]),(1,[vs ([]:Str)]),(1,[sl g.2.2.2.1 ((r_44.2.2.2.2.1).length) ((r_44.2.2.2.2.1++([]:List (Str))).length)]),(1,[vs r_44.1]),(1,[vi 0]),(1,[vs ([]:Str)]),(1,[sl g.2.2.2.2 ((r_44.2.2.2.2.2).length) ((r_44.2.2.2.2.2++([]:List (Str × Str × Int × Int × Int × Int))).length)]),(1,[vs ([]:Str)]),(1,[vi 1000]),(1,[vi 0]),(1,[vi 10]),(1,[vi 33290])]) (mem:=fun g=>[⟨some (g.1,0),eI (r_44.2.1++([]:List (Int)))⟩,⟨some (g.2.1,0),eI (r_44.2.2.1++([]:List (Int)))⟩,⟨g.2.2.1,eS (r_44.2.2.2.1++([]:List (Str)))⟩,⟨g.2.2.2.1,eS (r_44.2.2.2.2.1++([]:List (Str)))⟩,⟨g.2.2.2.2,eF (fun p:Str × Str × Int × Int × Int × Int=>[vs p.1,vs p.2.1,vi p.2.2.1,vi p.2.2.2.1,vi p.2.2.2.2.1,vi p.2.2.2.2.2]) (r_44.2.2.2.2.2++([]:List (Str × Str × Int × Int × Int × Int)))⟩]) (vs:=[]) (Lin:=[]) (Ro:=[]) (is:=[]) rfl call24 (F24_calls r_44 hr_44) rfl trivial) (fun g_44=>?_)
            obtain ⟨r_45,hr_45,H⟩:=bind_elim H
            refine TLu (E_c0 (F16_calls (some (g_44.1,0)) ((r_44.2.1++([]:List (Int))).length) (some (g_44.2.1,0)) ((r_44.2.2.1++([]:List (Int))).length) g_44.2.2.1 ((r_44.2.2.2.1++([]:List (Str))).length) g_44.2.2.2.1 ((r_44.2.2.2.2.1++([]:List (Str))).length) g_44.2.2.2.2 ((r_44.2.2.2.2.2++([]:List (Str × Str × Int × Int × Int × Int))).length) false r_44.2.1 r_44.2.2.1 r_44.2.2.2.1 ([]:Str) r_44.2.2.2.2.1 r_44.1 0 ([]:Str) r_44.2.2.2.2.2 ([]:Str) 1000 0 10 33290 (row_le _ _) (row_le _ _) (row_le _ _) (row_le _ _) (row_le _ _) r_45 hr_45) call16 ⟨(srcdRow (.o 0)),(srcdRow (.o 1)),(srcdRow (.o 2)),(srcdRow (.o 3)),(srcdRowF (s:=6) (fun _=>rfl) (.o 4)),trivial⟩) (fun g_45=>?_)
            refine TVt ?_
            refine TVm ?_
            refine TFb (d:=138) H (fun hc H=>?_) (fun hc H=>?_)
            ·obtain ⟨r_46,hr_46,H⟩:=bind_elim H
             refine TLu (E_call (Γ:=Nat × Nat × Nat × Adr × Adr) (val:=fun g=>aG [(1,[vb true]),(1,[sl (some (g.1,0)) ((r_46.2.1).length) ((r_46.2.1++([]:List (Int))).length)]),(1,[sl (some (g.2.1,0)) ((r_46.2.2.1).length) ((r_46.2.2.1++([]:List (Int))).length)]),(1,[sl (some (g.2.2.1,0)) ((r_46.2.2.2.1).length) ((r_46.2.2.2.1++([]:List (Str))).length)]),(1,[vs r_46.1]),(1,[sl g.2.2.2.1 ((r_46.2.2.2.2.1).length) ((r_46.2.2.2.2.1++([]:List (Str))).length)]),(1,[vs ([]:Str)]),(1,[vi 0]),(1,[vs ([]:Str)]),(1,[sl g.2.2.2.2 ((r_46.2.2.2.2.2).length) ((r_46.2.2.2.2.2++([]:List (Str × Str × Int × Int × Int × Int))).length)]),(1,[vs ([]:Str)]),(1,[vi 1000]),(1,[vi 0]),(1,[vi 10]),(1,[vi 33290])]) (mem:=fun g=>[⟨some (g.1,0),eI (r_46.2.1++([]:List (Int)))⟩,⟨some (g.2.1,0),eI (r_46.2.2.1++([]:List (Int)))⟩,⟨some (g.2.2.1,0),eS (r_46.2.2.2.1++([]:List (Str)))⟩,⟨g.2.2.2.1,eS (r_46.2.2.2.2.1++([]:List (Str)))⟩,⟨g.2.2.2.2,eF (fun p:Str × Str × Int × Int × Int × Int=>[vs p.1,vs p.2.1,vi p.2.2.1,vi p.2.2.2.1,vi p.2.2.2.2.1,vi p.2.2.2.2.2]) (r_46.2.2.2.2.2++([]:List (Str × Str × Int × Int × Int × Int)))⟩]) (vs:=[]) (Lin:=[]) (Ro:=[]) (is:=[]) rfl call25 (F25_calls r_46 hr_46) rfl trivial) (fun g_46=>?_)
             obtain ⟨r_47,hr_47,H⟩:=bind_elim H
             refine TLu (E_c0 (F16_calls (some (g_46.1,0)) ((r_46.2.1++([]:List (Int))).length) (some (g_46.2.1,0)) ((r_46.2.2.1++([]:List (Int))).length) (some (g_46.2.2.1,0)) ((r_46.2.2.2.1++([]:List (Str))).length) g_46.2.2.2.1 ((r_46.2.2.2.2.1++([]:List (Str))).length) g_46.2.2.2.2 ((r_46.2.2.2.2.2++([]:List (Str × Str × Int × Int × Int × Int))).length) true r_46.2.1 r_46.2.2.1 r_46.2.2.2.1 r_46.1 r_46.2.2.2.2.1 ([]:Str) 0 ([]:Str) r_46.2.2.2.2.2 ([]:Str) 1000 0 10 33290 (row_le _ _) (row_le _ _) (row_le _ _) (row_le _ _) (row_le _ _) r_47 hr_47) call16 ⟨(srcdRow (.o 0)),(srcdRow (.o 1)),(srcdRow (.o 2)),(srcdRow (.o 3)),(srcdRowF (s:=6) (fun _=>rfl) (.o 4)),trivial⟩) (fun g_47=>?_)
             refine TVt ?_
             refine TVa ?_
             refine TL_nil ?_
             obtain rfl:=sj H
             exact TXj [] (hJ ())
            ·refine TLs ?_
             refine TLs ?_
             refine TVf ?_
             refine TVa ?_
             refine TL_nil ?_
             obtain rfl:=sj H
             exact TXj [] (hJ ())
           ·refine TLs ?_
            refine TLs ?_
            refine TVf ?_
            refine TVm ?_
            refine TLs ?_
            refine TLs ?_
            refine TVf ?_
            refine TVa ?_
            refine TL_nil ?_
            obtain rfl:=sj H
            exact TXj [] (hJ ())
         ·refine TC_skip (TX_next (TC_seq (TC_region (TLv (V_loadAgg (n:=15) (cs:=flat [(1,[vb j10.1]),(1,[sl (some (gj1.1,0)) ((j1.2.1).length) ((j1.2.1++([]:List (Int))).length)]),(1,[sl (some (gj10.1,0)) ((j10.2.1).length) ((j10.2.1++([]:List (Int))).length)]),(1,[sl gj10.2.1 ((j10.2.2.1).length) ((j10.2.2.1++gj10.2.2.1).length)]),(1,[vs j1.2.2.2.2.1]),(1,[sl gj10.2.2.2 ((j10.2.2.2.1).length) ((j10.2.2.2.1++([]:List (Str))).length)]),(1,[vs j1.2.2.2.2.2.2.1]),(1,[vi j10.2.2.2.2.1]),(1,[vs j10.2.2.2.2.2.1]),(1,[sl gj1.2.2.2.2 ((j1.2.2.2.2.2.2.2).length) ((j1.2.2.2.2.2.2.2++([]:List (Str × Str × Int × Int × Int × Int))).length)]),(1,[vs j10.2.2.2.2.2.2.1]),(1,[vi j10.2.2.2.2.2.2.2.1]),(1,[vi j10.2.2.2.2.2.2.2.2.1]),(1,[vi j10.2.2.2.2.2.2.2.2.2.1]),(1,[vi j10.2.2.2.2.2.2.2.2.2.2])]) rfl (by simp) (SrcEnts (b:=b1) [(1,[vb j10.1]),(1,[sl (some (gj1.1,0)) ((j1.2.1).length) ((j1.2.1++([]:List (Int))).length)]),(1,[sl (some (gj10.1,0)) ((j10.2.1).length) ((j10.2.1++([]:List (Int))).length)]),(1,[sl gj10.2.1 ((j10.2.2.1).length) ((j10.2.2.1++gj10.2.2.1).length)]),(1,[vs j1.2.2.2.2.1]),(1,[sl gj10.2.2.2 ((j10.2.2.2.1).length) ((j10.2.2.2.1++([]:List (Str))).length)]),(1,[vs j1.2.2.2.2.2.2.1]),(1,[vi j10.2.2.2.2.1]),(1,[vs j10.2.2.2.2.2.1]),(1,[sl gj1.2.2.2.2 ((j1.2.2.2.2.2.2.2).length) ((j1.2.2.2.2.2.2.2++([]:List (Str × Str × Int × Int × Int × Int))).length)]),(1,[vs j10.2.2.2.2.2.2.1]),(1,[vi j10.2.2.2.2.2.2.2.1]),(1,[vi j10.2.2.2.2.2.2.2.2.1]),(1,[vi j10.2.2.2.2.2.2.2.2.2.1]),(1,[vi j10.2.2.2.2.2.2.2.2.2.2])] 0 ⟨rfl,rfl,rfl,rfl,rfl,rfl,rfl,rfl,rfl,rfl,rfl,rfl,rfl,rfl,rfl,trivial⟩ (AllSrc.all (M:=ents b1 0 [(1,[vb j10.1]),(1,[sl (some (gj1.1,0)) ((j1.2.1).length) ((j1.2.1++([]:List (Int))).length)]),(1,[sl (some (gj10.1,0)) ((j10.2.1).length) ((j10.2.1++([]:List (Int))).length)]),(1,[sl gj10.2.1 ((j10.2.2.1).length) ((j10.2.2.1++gj10.2.2.1).length)]),(1,[vs j1.2.2.2.2.1]),(1,[sl gj10.2.2.2 ((j10.2.2.2.1).length) ((j10.2.2.2.1++([]:List (Str))).length)]),(1,[vs j1.2.2.2.2.2.2.1]),(1,[vi j10.2.2.2.2.1]),(1,[vs j10.2.2.2.2.2.1]),(1,[sl gj1.2.2.2.2 ((j1.2.2.2.2.2.2.2).length) ((j1.2.2.2.2.2.2.2++([]:List (Str × Str × Int × Int × Int × Int))).length)]),(1,[vs j10.2.2.2.2.2.2.1]),(1,[vi j10.2.2.2.2.2.2.2.1]),(1,[vi j10.2.2.2.2.2.2.2.2.1]),(1,[vi j10.2.2.2.2.2.2.2.2.2.1]),(1,[vi j10.2.2.2.2.2.2.2.2.2.2])]) ⟨Src.own (j:=0) rfl,Src.own (j:=1) rfl,Src.own (j:=3) rfl,Src.own (j:=5) rfl,Src.own (j:=7) rfl,Src.own (j:=8) rfl,Src.own (j:=10) rfl,Src.own (j:=11) rfl,Src.own (j:=12) rfl,Src.own (j:=13) rfl,Src.own (j:=15) rfl,Src.own (j:=16) rfl,Src.own (j:=17) rfl,Src.own (j:=18) rfl,Src.own (j:=19) rfl,trivial⟩)) isAgg26 inf26 rfl (flat_len ⟨rfl,rfl,rfl,rfl,rfl,rfl,rfl,rfl,rfl,rfl,rfl,rfl,rfl,rfl,rfl,trivial⟩ rfl)) ?_))))
          obtain ⟨r_48,hr_48,H⟩:=bind_elim H
          refine TLe (E_c0 (F16_calls (some (gj1.1,0)) ((j1.2.1++([]:List (Int))).length) (some (gj10.1,0)) ((j10.2.1++([]:List (Int))).length) gj10.2.1 ((j10.2.2.1++gj10.2.2.1).length) gj10.2.2.2 ((j10.2.2.2.1++([]:List (Str))).length) gj1.2.2.2.2 ((j1.2.2.2.2.2.2.2++([]:List (Str × Str × Int × Int × Int × Int))).length) j10.1 j1.2.1 j10.2.1 j10.2.2.1 j1.2.2.2.2.1 j10.2.2.2.1 j1.2.2.2.2.2.2.1 j10.2.2.2.2.1 j10.2.2.2.2.2.1 j1.2.2.2.2.2.2.2 j10.2.2.2.2.2.2.1 j10.2.2.2.2.2.2.2.1 j10.2.2.2.2.2.2.2.2.1 j10.2.2.2.2.2.2.2.2.2.1 j10.2.2.2.2.2.2.2.2.2.2 (row_le _ _) (row_le _ _) (row_le _ _) (row_le _ _) (row_le _ _) r_48 hr_48) call16 ⟨(srcdRow (.o 2)),(srcdRow (.o 4)),(srcdRow (.o 6)),(srcdRow (.o 9)),(srcdRowF (s:=6) (fun _=>rfl) (.o 14)),trivial⟩) (fun g_48=>?_)
          refine TLv (V_un rfl (fun w=>notB w r_48)) ?_
          refine TVm ?_
          refine TFb (d:=145) H (fun hc H=>?_) (fun hc H=>?_)
          ·obtain ⟨r_49,hr_49,H⟩:=bind_elim H
           refine TLu (E_call (Γ:=Nat × Nat × Adr × Adr × Adr) (val:=fun g=>aG [(1,[vb false]),(1,[sl (some (g.1,0)) ((r_49.2.1).length) ((r_49.2.1++([]:List (Int))).length)]),(1,[sl (some (g.2.1,0)) ((r_49.2.2.1).length) ((r_49.2.2.1++([]:List (Int))).length)]),(1,[sl g.2.2.1 ((r_49.2.2.2.1).length) ((r_49.2.2.2.1++([]:List (Str))).length)]),(1,[vs ([]:Str)]),(1,[sl g.2.2.2.1 ((r_49.2.2.2.2.1).length) ((r_49.2.2.2.2.1++([]:List (Str))).length)]),(1,[vs r_49.1]),(1,[vi 0]),(1,[vs ([]:Str)]),(1,[sl g.2.2.2.2 ((r_49.2.2.2.2.2).length) ((r_49.2.2.2.2.2++([]:List (Str × Str × Int × Int × Int × Int))).length)]),(1,[vs ([]:Str)]),(1,[vi 1000]),(1,[vi 0]),(1,[vi 10]),(1,[vi 33290])]) (mem:=fun g=>[⟨some (g.1,0),eI (r_49.2.1++([]:List (Int)))⟩,⟨some (g.2.1,0),eI (r_49.2.2.1++([]:List (Int)))⟩,⟨g.2.2.1,eS (r_49.2.2.2.1++([]:List (Str)))⟩,⟨g.2.2.2.1,eS (r_49.2.2.2.2.1++([]:List (Str)))⟩,⟨g.2.2.2.2,eF (fun p:Str × Str × Int × Int × Int × Int=>[vs p.1,vs p.2.1,vi p.2.2.1,vi p.2.2.2.1,vi p.2.2.2.2.1,vi p.2.2.2.2.2]) (r_49.2.2.2.2.2++([]:List (Str × Str × Int × Int × Int × Int)))⟩]) (vs:=[]) (Lin:=[]) (Ro:=[]) (is:=[]) rfl call24 (F24_calls r_49 hr_49) rfl trivial) (fun g_49=>?_)
           obtain ⟨r_50,hr_50,H⟩:=bind_elim H
           refine TLu (E_c0 (F16_calls (some (g_49.1,0)) ((r_49.2.1++([]:List (Int))).length) (some (g_49.2.1,0)) ((r_49.2.2.1++([]:List (Int))).length) g_49.2.2.1 ((r_49.2.2.2.1++([]:List (Str))).length) g_49.2.2.2.1 ((r_49.2.2.2.2.1++([]:List (Str))).length) g_49.2.2.2.2 ((r_49.2.2.2.2.2++([]:List (Str × Str × Int × Int × Int × Int))).length) false r_49.2.1 r_49.2.2.1 r_49.2.2.2.1 ([]:Str) r_49.2.2.2.2.1 r_49.1 0 ([]:Str) r_49.2.2.2.2.2 ([]:Str) 1000 0 10 33290 (row_le _ _) (row_le _ _) (row_le _ _) (row_le _ _) (row_le _ _) r_50 hr_50) call16 ⟨(srcdRow (.o 0)),(srcdRow (.o 1)),(srcdRow (.o 2)),(srcdRow (.o 3)),(srcdRowF (s:=6) (fun _=>rfl) (.o 4)),trivial⟩) (fun g_50=>?_)
           refine TVt ?_
           refine TVm ?_
           refine TFb (d:=149) H (fun hc H=>?_) (fun hc H=>?_)
           ·obtain ⟨r_51,hr_51,H⟩:=bind_elim H
            refine TLu (E_call (Γ:=Nat × Nat × Nat × Adr × Adr) (val:=fun g=>aG [(1,[vb true]),(1,[sl (some (g.1,0)) ((r_51.2.1).length) ((r_51.2.1++([]:List (Int))).length)]),(1,[sl (some (g.2.1,0)) ((r_51.2.2.1).length) ((r_51.2.2.1++([]:List (Int))).length)]),(1,[sl (some (g.2.2.1,0)) ((r_51.2.2.2.1).length) ((r_51.2.2.2.1++([]:List (Str))).length)]),(1,[vs r_51.1]),(1,[sl g.2.2.2.1 ((r_51.2.2.2.2.1).length) ((r_51.2.2.2.2.1++([]:List (Str))).length)]),(1,[vs ([]:Str)]),(1,[vi 0]),(1,[vs ([]:Str)]),(1,[sl g.2.2.2.2 ((r_51.2.2.2.2.2).length) ((r_51.2.2.2.2.2++([]:List (Str × Str × Int × Int × Int × Int))).length)]),(1,[vs ([]:Str)]),(1,[vi 1000]),(1,[vi 0]),(1,[vi 10]),(1,[vi 33290])]) (mem:=fun g=>[⟨some (g.1,0),eI (r_51.2.1++([]:List (Int)))⟩,⟨some (g.2.1,0),eI (r_51.2.2.1++([]:List (Int)))⟩,⟨some (g.2.2.1,0),eS (r_51.2.2.2.1++([]:List (Str)))⟩,⟨g.2.2.2.1,eS (r_51.2.2.2.2.1++([]:List (Str)))⟩,⟨g.2.2.2.2,eF (fun p:Str × Str × Int × Int × Int × Int=>[vs p.1,vs p.2.1,vi p.2.2.1,vi p.2.2.2.1,vi p.2.2.2.2.1,vi p.2.2.2.2.2]) (r_51.2.2.2.2.2++([]:List (Str × Str × Int × Int × Int × Int)))⟩]) (vs:=[]) (Lin:=[]) (Ro:=[]) (is:=[]) rfl call25 (F25_calls r_51 hr_51) rfl trivial) (fun g_51=>?_)
            obtain ⟨r_52,hr_52,H⟩:=bind_elim H
            refine TLu (E_c0 (F16_calls (some (g_51.1,0)) ((r_51.2.1++([]:List (Int))).length) (some (g_51.2.1,0)) ((r_51.2.2.1++([]:List (Int))).length) (some (g_51.2.2.1,0)) ((r_51.2.2.2.1++([]:List (Str))).length) g_51.2.2.2.1 ((r_51.2.2.2.2.1++([]:List (Str))).length) g_51.2.2.2.2 ((r_51.2.2.2.2.2++([]:List (Str × Str × Int × Int × Int × Int))).length) true r_51.2.1 r_51.2.2.1 r_51.2.2.2.1 r_51.1 r_51.2.2.2.2.1 ([]:Str) 0 ([]:Str) r_51.2.2.2.2.2 ([]:Str) 1000 0 10 33290 (row_le _ _) (row_le _ _) (row_le _ _) (row_le _ _) (row_le _ _) r_52 hr_52) call16 ⟨(srcdRow (.o 0)),(srcdRow (.o 1)),(srcdRow (.o 2)),(srcdRow (.o 3)),(srcdRowF (s:=6) (fun _=>rfl) (.o 4)),trivial⟩) (fun g_52=>?_)
            refine TVt ?_
            refine TVa ?_
            refine TL_nil (TX_next (TC.sub (m':=[(6,_)]) ⟨rfl,trivial⟩ ?_))
            refine TC.pull (is:=[]) (L':=[]) rfl ?_
            refine TC_ret ?_
            obtain rfl:=sj H
            exact TX1
           ·refine TLs ?_
            refine TLs ?_
            refine TVf ?_
            refine TVa ?_
            refine TL_nil (TX_next (TC.sub (m':=[(6,_)]) ⟨rfl,trivial⟩ ?_))
            refine TC.pull (is:=[]) (L':=[]) rfl ?_
            refine TC_ret ?_
            obtain rfl:=sj H
            exact TX1
          ·refine TLs ?_
           refine TLs ?_
           refine TVf ?_
           refine TVm ?_
           refine TLs ?_
           refine TLs ?_
           refine TVf ?_
           refine TVa ?_
           refine TL_nil (TX_next (TC_ret ?_))
           obtain rfl:=sj H
           exact TX1
        ·intro hJ
         replace H:=Hj
         refine TFd (d:=125) H (fun hc H=>?_) (fun hc H=>?_)
         ·refine TLw (V_move rfl) ?_
          refine TLw (V_bin rfl rfl (fun w=>andI w d1 31)) ?_
          refine TLw (V_bin rfl rfl (fun w=>eqlI w (iop (· &&& ·) d1 31) 0)) ?_
          refine TVt ?_
          refine TL_nil ?_
          obtain rfl:=sj H
          exact TXj [0,0,0,0,0,0,0,0,0,0,0,0,0,0,0,0,0,0,0,0] (hJ ())
         ·refine TLs ?_
          refine TLs ?_
          refine TLs ?_
          refine TVf ?_
          refine TL_nil ?_
          obtain rfl:=sj H
          exact TXj [0,0,0,0,0,0,0,0,0,0,0,0,0,0,0,0,0,0,0,0] (hJ ())
       ·intro hJ
        replace H:=Hj
        refine TCb H (fun hc H=>?_) (fun hc H=>?_)
        ·refine TC_region (TLe (E_buildSlice (pv:=[(0,vi 23),(1,vi 23)]) rfl rfl underlying22 inf3 (s:=1) rfl zer3 rfl rfl rfl (cs:=eI ([23,23]:List (Int))) (by kernel_rfl)) (fun b4=>?_))
         refine TLv (V_fieldE rfl underlying26 rfl rfl inf22 rfl (v:=ptr (some (b1,2)) 0) rfl) ?_
         refine TLn (E_store (j:=4) rfl rfl inf22 rfl rfl rfl (Nat.lt_succ_self 0) (cs':=[sl (some (b4,0)) 2 2]) rfl) (fun _=>?_)
         refine TL_reE (j:=0) (A:=some (b4,0)) (cs:=eI ([23,23]:List (Int))) (cs':=eI (([23,23]:List (Int))++([]:List (Int)))) rfl (congrArg (eI) (List.append_nil _).symm) ?_
         refine TL_reE (j:=4) (A:=some (b1,2)) (cs:=[sl (some (b4,0)) 2 2]) (cs':=[sl (some (b4,0)) ((([23,23]:List (Int))).length) ((([23,23]:List (Int))++([]:List (Int))).length)]) rfl (congrArg (fun z=>[z]) (sl_row rfl)) ?_
         refine TL_nil ?_
         obtain rfl:=sj H
         exact TXj [1,1,1,1,0,1,1,1,1,1,1,1,1,1,1,1,1,1,1,1] (hJ (b4,gj1.2.2.1,([]:List (Str)),gj1.2.2.2.1))
        ·refine TC_seq (TC_region (TLv (V_bin rfl rfl (fun w=>eql64 w ((BitVec.ofInt 64 which) % 20#64) 5#64)) ?_))
         refine TVa ?_
         obtain ⟨x6,hx6,H⟩:=ltt_elim H
         refine TLr 45 (congrArg vb hx6) ?_
         refine TL_nil (TX_next (TCb H (fun hc H=>?_) (fun hc H=>?_)))
         ·refine TC_region (TVm ?_)
          refine TLv (V_bin rfl rfl (fun w=>addI w 30 d1)) ?_
          refine TLe (E_buildSlice (pv:=[(0,vi (w64 (30+d1)))]) rfl rfl underlying22 inf3 (s:=1) rfl zer3 rfl rfl rfl (cs:=eI ([w64 (30+d1)]:List (Int))) (by kernel_rfl)) (fun b5=>?_)
          refine TLv (V_fieldE rfl underlying26 rfl rfl inf22 rfl (v:=ptr (some (b1,2)) 0) rfl) ?_
          refine TLn (E_store (j:=4) rfl rfl inf22 rfl rfl rfl (Nat.lt_succ_self 0) (cs':=[sl (some (b5,0)) 1 1]) rfl) (fun _=>?_)
          refine TL_reE (j:=0) (A:=some (b5,0)) (cs:=eI ([w64 (30+d1)]:List (Int))) (cs':=eI (([w64 (30+d1)]:List (Int))++([]:List (Int)))) rfl (congrArg (eI) (List.append_nil _).symm) ?_
          refine TL_reE (j:=4) (A:=some (b1,2)) (cs:=[sl (some (b5,0)) 1 1]) (cs':=[sl (some (b5,0)) ((([w64 (30+d1)]:List (Int))).length) ((([w64 (30+d1)]:List (Int))++([]:List (Int))).length)]) rfl (congrArg (fun z=>[z]) (sl_row rfl)) ?_
          refine TL_nil ?_
          obtain rfl:=sj H
          exact TXj [1,1,1,1,0,1,1,1,1,1,1,1,1,1,1,1,1,1,1,1] (hJ (b5,gj1.2.2.1,([]:List (Str)),gj1.2.2.2.1))
         ·refine TC_seq (TC_region (TLv (V_bin rfl rfl (fun w=>eql64 w ((BitVec.ofInt 64 which) % 20#64) 6#64)) ?_))
          refine TVa ?_
          obtain ⟨x7,hx7,H⟩:=ltt_elim H
          refine TLr 51 (congrArg vb hx7) ?_
          refine TL_nil (TX_next (TC.sub (m':=[(0,_),(2,_),(7,_),(8,_),(19,_),(51,_)]) ⟨rfl,rfl,rfl,rfl,rfl,rfl,trivial⟩ ?_))
          refine TC.pull (is:=[0,0,0,0,0,0,0,0,0,0,0,0,0,0,0,0,0,0,0,0]) (L':=[_,_,_,_,_,_,_,_,_,_,_,_,_,_,_,_,_,_,_,_]) rfl ?_
          refine TCb H (fun hc H=>?_) (fun hc H=>?_)
          ·refine TC_region (TVm ?_)
           refine TLv (V_un rfl (fun w=>negI w d1)) ?_
           refine TLv (V_fieldE rfl underlying26 rfl rfl inf3 rfl (v:=ptr (some (b1,11)) 0) rfl) ?_
           refine TLn (E_store (j:=16) rfl rfl inf3 rfl rfl rfl (Nat.lt_succ_self 0) (cs':=[vi (w64 (0 - d1))]) rfl) (fun _=>?_)
           refine TL_nil ?_
           obtain rfl:=sj H
           exact TXj [0,0,0,0,0,0,0,0,0,0,0,0,0,0,0,0,0,0,0,0] (hJ (gj1.2.1,gj1.2.2.1,([]:List (Str)),gj1.2.2.2.1))
          ·refine TC_seq (TC_region (TLv (V_bin rfl rfl (fun w=>eql64 w ((BitVec.ofInt 64 which) % 20#64) 7#64)) ?_))
           refine TVa ?_
           obtain ⟨x8,hx8,H⟩:=ltt_elim H
           refine TLr 56 (congrArg vb hx8) ?_
           refine TL_nil (TX_next (TCb H (fun hc H=>?_) (fun hc H=>?_)))
           ·refine TC_region (TVm ?_)
            refine TLv (V_bin rfl rfl (fun w=>addI w 4294967295 d1)) ?_
            refine TLv (V_fieldE rfl underlying26 rfl rfl inf3 rfl (v:=ptr (some (b1,11)) 0) rfl) ?_
            refine TLn (E_store (j:=16) rfl rfl inf3 rfl rfl rfl (Nat.lt_succ_self 0) (cs':=[vi (w64 (4294967295+d1))]) rfl) (fun _=>?_)
            refine TL_nil ?_
            obtain rfl:=sj H
            exact TXj [0,0,0,0,0,0,0,0,0,0,0,0,0,0,0,0,0,0,0,0] (hJ (gj1.2.1,gj1.2.2.1,([]:List (Str)),gj1.2.2.2.1))
           ·refine TC_seq (TC_region (TLv (V_bin rfl rfl (fun w=>eql64 w ((BitVec.ofInt 64 which) % 20#64) 8#64)) ?_))
            refine TVa ?_
            obtain ⟨x9,hx9,H⟩:=ltt_elim H
            refine TLr 61 (congrArg vb hx9) ?_
            refine TL_nil (TX_next (TCb H (fun hc H=>?_) (fun hc H=>?_)))
            ·refine TC_region (TVm ?_)
             refine TLv (V_un rfl (fun w=>negI w d1)) ?_
             refine TLv (V_fieldE rfl underlying26 rfl rfl inf3 rfl (v:=ptr (some (b1,12)) 0) rfl) ?_
             refine TLn (E_store (j:=17) rfl rfl inf3 rfl rfl rfl (Nat.lt_succ_self 0) (cs':=[vi (w64 (0 - d1))]) rfl) (fun _=>?_)
             refine TL_nil ?_
             obtain rfl:=sj H
             exact TXj [0,0,0,0,0,0,0,0,0,0,0,0,0,0,0,0,0,0,0,0] (hJ (gj1.2.1,gj1.2.2.1,([]:List (Str)),gj1.2.2.2.1))
            ·refine TC_seq (TC_region (TLv (V_bin rfl rfl (fun w=>eql64 w ((BitVec.ofInt 64 which) % 20#64) 9#64)) ?_))
             refine TVa ?_
             obtain ⟨x10,hx10,H⟩:=ltt_elim H
             refine TLr 66 (congrArg vb hx10) ?_
             refine TL_nil (TX_next (TCb H (fun hc H=>?_) (fun hc H=>?_)))
             ·refine TC_region (TVm ?_)
              refine TLv (V_bin rfl rfl (fun w=>addI w 16384 d1)) ?_
              refine TLv (V_fieldE rfl underlying26 rfl rfl inf3 rfl (v:=ptr (some (b1,12)) 0) rfl) ?_
              refine TLn (E_store (j:=17) rfl rfl inf3 rfl rfl rfl (Nat.lt_succ_self 0) (cs':=[vi (w64 (16384+d1))]) rfl) (fun _=>?_)
              refine TL_nil ?_
              obtain rfl:=sj H
              exact TXj [0,0,0,0,0,0,0,0,0,0,0,0,0,0,0,0,0,0,0,0] (hJ (gj1.2.1,gj1.2.2.1,([]:List (Str)),gj1.2.2.2.1))
             ·refine TC_seq (TC_region (TLv (V_bin rfl rfl (fun w=>eql64 w ((BitVec.ofInt 64 which) % 20#64) 10#64)) ?_))
              refine TVa ?_
              obtain ⟨x11,hx11,H⟩:=ltt_elim H
              refine TLr 71 (congrArg vb hx11) ?_
              refine TL_nil (TX_next (TCb H (fun hc H=>?_) (fun hc H=>?_)))
              ·refine TC_region (TVm ?_)
               refine TLv (V_bin rfl rfl (fun w=>subI w 4 d1)) ?_
               refine TLv (V_fieldE rfl underlying26 rfl rfl inf3 rfl (v:=ptr (some (b1,13)) 0) rfl) ?_
               refine TLn (E_store (j:=18) rfl rfl inf3 rfl rfl rfl (Nat.lt_succ_self 0) (cs':=[vi (w64 (4 - d1))]) rfl) (fun _=>?_)
               refine TL_nil ?_
               obtain rfl:=sj H
               exact TXj [0,0,0,0,0,0,0,0,0,0,0,0,0,0,0,0,0,0,0,0] (hJ (gj1.2.1,gj1.2.2.1,([]:List (Str)),gj1.2.2.2.1))
              ·refine TC_seq (TC_region (TLv (V_bin rfl rfl (fun w=>eql64 w ((BitVec.ofInt 64 which) % 20#64) 11#64)) ?_))
               refine TVa ?_
               obtain ⟨x12,hx12,H⟩:=ltt_elim H
               refine TLr 76 (congrArg vb hx12) ?_
               refine TL_nil (TX_next (TCb H (fun hc H=>?_) (fun hc H=>?_)))
               ·refine TC_region (TVm ?_)
                refine TLv (V_bin rfl rfl (fun w=>addI w 16777216 d1)) ?_
                refine TLv (V_fieldE rfl underlying26 rfl rfl inf3 rfl (v:=ptr (some (b1,13)) 0) rfl) ?_
                refine TLn (E_store (j:=18) rfl rfl inf3 rfl rfl rfl (Nat.lt_succ_self 0) (cs':=[vi (w64 (16777216+d1))]) rfl) (fun _=>?_)
                refine TL_nil ?_
                obtain rfl:=sj H
                exact TXj [0,0,0,0,0,0,0,0,0,0,0,0,0,0,0,0,0,0,0,0] (hJ (gj1.2.1,gj1.2.2.1,([]:List (Str)),gj1.2.2.2.1))
               ·refine TC_seq (TC_region (TLv (V_bin rfl rfl (fun w=>eql64 w ((BitVec.ofInt 64 which) % 20#64) 12#64)) ?_))
                refine TVa ?_
                obtain ⟨x13,hx13,H⟩:=ltt_elim H
                refine TLr 81 (congrArg vb hx13) ?_
                refine TL_nil (TX_next (TCb H (fun hc H=>?_) (fun hc H=>?_)))
                ·refine TC_region (TVm ?_)
                 refine TLv (V_bin rfl rfl (fun w=>subI w 33290 d1)) ?_
                 refine TLv (V_fieldE rfl underlying26 rfl rfl inf3 rfl (v:=ptr (some (b1,14)) 0) rfl) ?_
                 refine TLn (E_store (j:=19) rfl rfl inf3 rfl rfl rfl (Nat.lt_succ_self 0) (cs':=[vi (w64 (33290 - d1))]) rfl) (fun _=>?_)
                 refine TL_nil ?_
                 obtain rfl:=sj H
                 exact TXj [0,0,0,0,0,0,0,0,0,0,0,0,0,0,0,0,0,0,0,0] (hJ (gj1.2.1,gj1.2.2.1,([]:List (Str)),gj1.2.2.2.1))
                ·refine TC_seq (TC_region (TLv (V_bin rfl rfl (fun w=>eql64 w ((BitVec.ofInt 64 which) % 20#64) 13#64)) ?_))
                 refine TVa ?_
                 obtain ⟨x14,hx14,H⟩:=ltt_elim H
                 refine TLr 86 (congrArg vb hx14) ?_
                 refine TL_nil (TX_next (TCb H (fun hc H=>?_) (fun hc H=>?_)))
                 ·refine TC_region (TVm ?_)
                  refine TLv (V_bin rfl rfl (fun w=>addI w 262144 d1)) ?_
                  refine TLv (V_fieldE rfl underlying26 rfl rfl inf3 rfl (v:=ptr (some (b1,14)) 0) rfl) ?_
                  refine TLn (E_store (j:=19) rfl rfl inf3 rfl rfl rfl (Nat.lt_succ_self 0) (cs':=[vi (w64 (262144+d1))]) rfl) (fun _=>?_)
                  refine TL_nil ?_
                  obtain rfl:=sj H
                  exact TXj [0,0,0,0,0,0,0,0,0,0,0,0,0,0,0,0,0,0,0,0] (hJ (gj1.2.1,gj1.2.2.1,([]:List (Str)),gj1.2.2.2.1))
                 ·refine TC_seq (TC_region (TLv (V_bin rfl rfl (fun w=>eql64 w ((BitVec.ofInt 64 which) % 20#64) 14#64)) ?_))
                  refine TVa ?_
                  obtain ⟨x15,hx15,H⟩:=ltt_elim H
                  refine TLr 91 (congrArg vb hx15) ?_
                  refine TL_nil (TX_next (TCb H (fun hc H=>?_) (fun hc H=>?_)))
                  ·refine TC_region (TVm ?_)
                   refine TLv (V_bin rfl rfl (fun w=>addI w 65536 d1)) ?_
                   obtain ⟨r_53,hr_53,H⟩:=bind_elim H
                   refine TLe (E_c0 (F26_calls (w64 (65536+d1)) r_53 hr_53) call26 .z) (fun g_53=>?_)
                   refine TLv (V_fieldE rfl underlying26 rfl rfl inf9 rfl (v:=ptr (some (b1,10)) 0) rfl) ?_
                   refine TLn (E_store (j:=15) rfl rfl inf9 rfl rfl rfl (Nat.lt_succ_self 0) (cs':=[vs r_53]) rfl) (fun _=>?_)
                   refine TL_nil ?_
                   obtain rfl:=sj H
                   exact TXj [0,0,0,0,0,0,0,0,0,0,0,0,0,0,0,0,0,0,0,0] (hJ (gj1.2.1,gj1.2.2.1,([]:List (Str)),gj1.2.2.2.1))
                  ·refine TC_seq (TC_region (TLv (V_bin rfl rfl (fun w=>eql64 w ((BitVec.ofInt 64 which) % 20#64) 15#64)) ?_))
                   refine TVa ?_
                   obtain ⟨x16,hx16,H⟩:=ltt_elim H
                   refine TLr 97 (congrArg vb hx16) ?_
                   refine TL_nil (TX_next (TC.sub (m':=[(0,_),(2,_),(7,_),(8,_),(19,_),(97,_)]) ⟨rfl,rfl,rfl,rfl,rfl,rfl,trivial⟩ ?_))
                   refine TC.pull (is:=[0,0,0,0,0,0,0,0,0,0,0,0,0,0,0,0,0,0,0,0]) (L':=[_,_,_,_,_,_,_,_,_,_,_,_,_,_,_,_,_,_,_,_]) rfl ?_
                   refine TCb H (fun hc H=>?_) (fun hc H=>?_)
                   ·refine TC_region (TLv (V_fieldE rfl underlying26 rfl rfl inf4 rfl (v:=ptr (some (b1,0)) 0) rfl) ?_)
                    refine TLv (V_load rfl (.o 0) rfl isAgg4) ?_
                    refine TLv (V_un rfl (fun w=>notB w j1.1)) ?_
                    refine TLv (V_fieldE rfl underlying26 rfl rfl inf4 rfl (v:=ptr (some (b1,0)) 0) rfl) ?_
                    refine TLn (E_store (j:=0) rfl rfl inf4 rfl rfl rfl (Nat.lt_succ_self 0) (cs':=[vb (!j1.1)]) rfl) (fun _=>?_)
                    refine TL_nil ?_
                    obtain rfl:=sj H
                    exact TXj [0,0,0,0,0,0,0,0,0,0,0,0,0,0,0,0,0,0,0,0] (hJ (gj1.2.1,gj1.2.2.1,([]:List (Str)),gj1.2.2.2.1))
                   ·refine TC_seq (TC_region (TLv (V_bin rfl rfl (fun w=>eql64 w ((BitVec.ofInt 64 which) % 20#64) 16#64)) ?_))
                    refine TVa ?_
                    obtain ⟨x17,hx17,H⟩:=ltt_elim H
                    refine TLr 103 (congrArg vb hx17) ?_
                    refine TL_nil (TX_next (TCb H (fun hc H=>?_) (fun hc H=>?_)))
                    ·refine TC_region (TVm ?_)
                     refine TLv (V_fieldE rfl underlying26 rfl rfl inf3 rfl (v:=ptr (some (b1,7)) 0) rfl) ?_
                     refine TLn (E_store (j:=11) rfl rfl inf3 rfl rfl rfl (Nat.lt_succ_self 0) (cs':=[vi d1]) rfl) (fun _=>?_)
                     refine TL_nil ?_
                     obtain rfl:=sj H
                     exact TXj [0,0,0,0,0,0,0,0,0,0,0,0,0,0,0,0,0,0,0,0] (hJ (gj1.2.1,gj1.2.2.1,([]:List (Str)),gj1.2.2.2.1))
                    ·refine TC_seq (TC_region (TLv (V_bin rfl rfl (fun w=>eql64 w ((BitVec.ofInt 64 which) % 20#64) 17#64)) ?_))
                     refine TVa ?_
                     obtain ⟨x18,hx18,H⟩:=ltt_elim H
                     refine TLr 107 (congrArg vb hx18) ?_
                     refine TL_nil (TX_next (TCb H (fun hc H=>?_) (fun hc H=>?_)))
                     ·refine TC_region (TVm ?_)
                      refine TLv (V_bin rfl rfl (fun w=>andI w d1 31)) ?_
                      refine TLv (V_bin rfl rfl (fun w=>subI w 32 (iop (· &&& ·) d1 31))) ?_
                      obtain ⟨r_54,hr_54,H⟩:=bind_elim H
                      refine TLe (E_c0 (F26_calls (w64 (32 - (iop (· &&& ·) d1 31))) r_54 hr_54) call26 .z) (fun g_54=>?_)
                      refine TLv (V_fieldE rfl underlying26 rfl rfl inf9 rfl (v:=ptr (some (b1,8)) 0) rfl) ?_
                      refine TLn (E_store (j:=12) rfl rfl inf9 rfl rfl rfl (Nat.lt_succ_self 0) (cs':=[vs r_54]) rfl) (fun _=>?_)
                      refine TL_nil ?_
                      obtain rfl:=sj H
                      exact TXj [0,0,0,0,0,0,0,0,0,0,0,0,0,0,0,0,0,0,0,0] (hJ (gj1.2.1,gj1.2.2.1,([]:List (Str)),gj1.2.2.2.1))
                     ·refine TC_seq (TC_region (TLv (V_bin rfl rfl (fun w=>eql64 w ((BitVec.ofInt 64 which) % 20#64) 18#64)) ?_))
                      refine TVa ?_
                      obtain ⟨x19,hx19,H⟩:=ltt_elim H
                      refine TLr 114 (congrArg vb hx19) ?_
                      refine TL_nil (TX_next (TCb H (fun hc H=>?_) (fun hc H=>?_)))
                      ·refine TC_region (TLv (V_fieldE rfl underlying26 rfl rfl inf23 rfl (v:=ptr (some (b1,3)) 0) rfl) ?_)
                       refine TLv (V_load rfl (.o 5) rfl isAgg23) ?_
                       refine TLe (E_buildSlice (pv:=[(0,vs ([]:Str))]) rfl rfl underlying23 inf9 (s:=1) rfl zer9 rfl rfl rfl (cs:=eS ([([]:Str)]:List (Str))) (by kernel_rfl)) (fun b6=>?_)
                       refine TL_re (d:=118) (v:=sl (some (b6,0)) 1 1) (v':=sl (some (b6,0)) ((([([]:Str)]:List (Str))).length) 1) rfl (congrArg (fun n=>sl (some (b6,0)) n 1) rfl) ?_
                       obtain ⟨h1,H⟩:=if_elim H
                       obtain ⟨l1,hl1,H⟩:=ltt_elim H
                       refine TLe (E_app1 (f:=vs) (j:=7) (l:=j1.2.2.2.1) (sp:=([]:List (Str))) (ds:=([([]:Str)]:List (Str))) ([]:Str) (.o 0) rfl rfl rfl (fun _=>rfl) underlying23 underlying23 inf9 rfl zer9 (B':=16) rfl (by have:=h1; omega) (by have:=h1; omega) hl1) (fun q1=>?_)
                       refine TLv (V_fieldE rfl underlying26 rfl rfl inf23 rfl (v:=ptr (some (b1,3)) 0) rfl) ?_
                       refine TLn (E_store (j:=6) rfl rfl inf23 rfl rfl rfl (Nat.lt_succ_self 0) (cs':=[sl q1.1 ((l1).length) ((l1++q1.2).length)]) rfl) (fun _=>?_)
                       refine TL_nil ?_
                       obtain rfl:=sj H
                       exact TXj [1,1,1,1,1,1,1,1,1,1,1,1,1,1,1,1,1,1,1,1] (hJ (gj1.2.1,q1.1,q1.2,gj1.2.2.2.1))
                      ·refine TC_region (TVm ?_)
                       refine TLv (V_bin rfl rfl (fun w=>addI w 16384 d1)) ?_
                       obtain ⟨r_55,hr_55,H⟩:=bind_elim H
                       refine TLe (E_c0 (F26_calls (w64 (16384+d1)) r_55 hr_55) call26 .z) (fun g_55=>?_)
                       refine TLe (E_buildSlice (pv:=[(0,vs r_55)]) rfl rfl underlying23 inf9 (s:=1) rfl zer9 rfl rfl rfl (cs:=eS ([r_55]:List (Str))) (by kernel_rfl)) (fun b7=>?_)
                       refine TLv (V_fieldE rfl underlying26 rfl rfl inf23 rfl (v:=ptr (some (b1,5)) 0) rfl) ?_
                       refine TLn (E_store (j:=9) rfl rfl inf23 rfl rfl rfl (Nat.lt_succ_self 0) (cs':=[sl (some (b7,0)) 1 1]) rfl) (fun _=>?_)
                       refine TL_reE (j:=0) (A:=some (b7,0)) (cs:=eS ([r_55]:List (Str))) (cs':=eS (([r_55]:List (Str))++([]:List (Str)))) rfl (congrArg (eS) (List.append_nil _).symm) ?_
                       refine TL_reE (j:=9) (A:=some (b1,5)) (cs:=[sl (some (b7,0)) 1 1]) (cs':=[sl (some (b7,0)) ((([r_55]:List (Str))).length) ((([r_55]:List (Str))++([]:List (Str))).length)]) rfl (congrArg (fun z=>[z]) (sl_row rfl)) ?_
                       refine TL_nil ?_
                       obtain rfl:=sj H
                       exact TXj [1,1,1,1,1,1,1,1,1,0,1,1,1,1,1,1,1,1,1,1] (hJ (gj1.2.1,gj1.2.2.1,([]:List (Str)),some (b7,0)))
  ·intro hJ
   replace H:=Hj
   refine TCb H (fun hc H=>?_) (fun hc H=>?_)
   ·refine TC_region ?_
    obtain ⟨r_56,hr_56,H⟩:=bind_elim H
    refine TLe (E_call (Γ:=Nat × Nat × Nat × Adr × Adr) (val:=fun g=>aG [(1,[vb true]),(1,[sl (some (g.1,0)) ((r_56.2.1).length) ((r_56.2.1++([]:List (Int))).length)]),(1,[sl (some (g.2.1,0)) ((r_56.2.2.1).length) ((r_56.2.2.1++([]:List (Int))).length)]),(1,[sl (some (g.2.2.1,0)) ((r_56.2.2.2.1).length) ((r_56.2.2.2.1++([]:List (Str))).length)]),(1,[vs r_56.1]),(1,[sl g.2.2.2.1 ((r_56.2.2.2.2.1).length) ((r_56.2.2.2.2.1++([]:List (Str))).length)]),(1,[vs ([]:Str)]),(1,[vi 0]),(1,[vs ([]:Str)]),(1,[sl g.2.2.2.2 ((r_56.2.2.2.2.2).length) ((r_56.2.2.2.2.2++([]:List (Str × Str × Int × Int × Int × Int))).length)]),(1,[vs ([]:Str)]),(1,[vi 1000]),(1,[vi 0]),(1,[vi 10]),(1,[vi 33290])]) (mem:=fun g=>[⟨some (g.1,0),eI (r_56.2.1++([]:List (Int)))⟩,⟨some (g.2.1,0),eI (r_56.2.2.1++([]:List (Int)))⟩,⟨some (g.2.2.1,0),eS (r_56.2.2.2.1++([]:List (Str)))⟩,⟨g.2.2.2.1,eS (r_56.2.2.2.2.1++([]:List (Str)))⟩,⟨g.2.2.2.2,eF (fun p:Str × Str × Int × Int × Int × Int=>[vs p.1,vs p.2.1,vi p.2.2.1,vi p.2.2.2.1,vi p.2.2.2.2.1,vi p.2.2.2.2.2]) (r_56.2.2.2.2.2++([]:List (Str × Str × Int × Int × Int × Int)))⟩]) (vs:=[]) (Lin:=[]) (Ro:=[]) (is:=[]) rfl call25 (F25_calls r_56 hr_56) rfl trivial) (fun g_56=>?_)
    refine TLn (E_sp (b:=b1) (o:=0) [5,5,6,7,8,8,9,9,9,9,10,10,10,10,10] [(1,[vb false]),(1,[sl (some (g_2.1,0)) ((r_2.2.1).length) ((r_2.2.1++([]:List (Int))).length)]),(1,[sl (some (g_2.2.1,0)) ((r_2.2.2.1).length) ((r_2.2.2.1++([]:List (Int))).length)]),(1,[sl g_2.2.2.1 ((r_2.2.2.2.1).length) ((r_2.2.2.2.1++([]:List (Str))).length)]),(1,[vs ([]:Str)]),(1,[sl g_2.2.2.2.1 ((r_2.2.2.2.2.1).length) ((r_2.2.2.2.2.1++([]:List (Str))).length)]),(1,[vs r_2.1]),(1,[vi 0]),(1,[vs ([]:Str)]),(1,[sl g_2.2.2.2.2 ((r_2.2.2.2.2.2).length) ((r_2.2.2.2.2.2++([]:List (Str × Str × Int × Int × Int × Int))).length)]),(1,[vs ([]:Str)]),(1,[vi 1000]),(1,[vi 0]),(1,[vi 10]),(1,[vi 33290])] [(1,[vb true]),(1,[sl (some (g_56.1,0)) ((r_56.2.1).length) ((r_56.2.1++([]:List (Int))).length)]),(1,[sl (some (g_56.2.1,0)) ((r_56.2.2.1).length) ((r_56.2.2.1++([]:List (Int))).length)]),(1,[sl (some (g_56.2.2.1,0)) ((r_56.2.2.2.1).length) ((r_56.2.2.2.1++([]:List (Str))).length)]),(1,[vs r_56.1]),(1,[sl g_56.2.2.2.1 ((r_56.2.2.2.2.1).length) ((r_56.2.2.2.2.1++([]:List (Str))).length)]),(1,[vs ([]:Str)]),(1,[vi 0]),(1,[vs ([]:Str)]),(1,[sl g_56.2.2.2.2 ((r_56.2.2.2.2.2).length) ((r_56.2.2.2.2.2++([]:List (Str × Str × Int × Int × Int × Int))).length)]),(1,[vs ([]:Str)]),(1,[vi 1000]),(1,[vi 0]),(1,[vi 10]),(1,[vi 33290])] rfl inf26 ⟨rfl,rfl,rfl,rfl,rfl,rfl,rfl,rfl,rfl,rfl,rfl,rfl,rfl,rfl,rfl,trivial⟩ ⟨rfl,rfl,rfl,rfl,rfl,rfl,rfl,rfl,rfl,rfl,rfl,rfl,rfl,rfl,rfl,trivial⟩ ⟨(OneC.cons rfl OneC.nil),(OneC.cons rfl OneC.nil),(OneC.cons rfl OneC.nil),(OneC.cons rfl OneC.nil),(OneC.cons rfl OneC.nil),(OneC.cons rfl OneC.nil),(OneC.cons rfl OneC.nil),(OneC.cons rfl OneC.nil),(OneC.cons rfl OneC.nil),(OneC.cons rfl OneC.nil),(OneC.cons rfl OneC.nil),(OneC.cons rfl OneC.nil),(OneC.cons rfl OneC.nil),(OneC.cons rfl OneC.nil),(OneC.cons rfl OneC.nil),trivial⟩) (fun _=>?_)
    refine TL_nil ?_
    obtain rfl:=sj H
    exact TXj [0,0,13,0,12,0,11,0,0,9,0,0,0,0,5,0,0,0,0,0] (hJ (g_56.1,g_56.2.1,some (g_56.2.2.1,0),g_56.2.2.2.1,g_56.2.2.2.2))
   ·refine TC_skip ?_
    obtain rfl:=sj H
    exact TXj [0,0,0,0,0,0,0,0,0,0,0,0,0,0,0,0,0,0,0,0] (hJ (g_2.1,g_2.2.1,g_2.2.2.1,g_2.2.2.2.1,g_2.2.2.2.2))
end Go.Proofs
end
