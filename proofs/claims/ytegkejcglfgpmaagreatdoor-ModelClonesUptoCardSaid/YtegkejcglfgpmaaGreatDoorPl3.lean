/- The walks and the plain laws, part 3: TreeE, TreeG, TreeH, ChkA, ChkB, MdlAns, MdlEq, MdlJdg, MdlLaw, ReadM, RMath, RetA, RetB, RetC, MdlA, Ref11, RA, MdlB, MdlC, MdlD, RetF, RetS. Conditions: those that each theorem names. -/
import Derived.Test.YtegkejcglfgpmaaGreatDoorPl2
section
namespace Go.Proofs.YtegkejcglfgpmaaGreatDoor
open Go Go.an Go.aT
noncomputable def Pv:Code:=Tryz.f118.body.getD .skip
def len8:ByteArray:=⟨#[0,1,2,2,3,3,3,3,4,4,4,4,4,4,4,4,5,5,5,5,5,5,5,5,5,5,5,5,5,5,5,5,6,6,6,6,6,6,6,6,6,6,6,6,6,6,6,6,6,6,6,6,6,6,6,6,6,6,6,6,6,6,6,6,7,7,7,7,7,7,7,7,7,7,7,7,7,7,7,7,7,7,7,7,7,7,7,7,7,7,7,7,7,7,7,7,7,7,7,7,7,7,7,7,7,7,7,7,7,7,7,7,7,7,7,7,7,7,7,7,7,7,7,7,7,7,7,7,8,8,8,8,8,8,8,8,8,8,8,8,8,8,8,8,8,8,8,8,8,8,8,8,8,8,8,8,8,8,8,8,8,8,8,8,8,8,8,8,8,8,8,8,8,8,8,8,8,8,8,8,8,8,8,8,8,8,8,8,8,8,8,8,8,8,8,8,8,8,8,8,8,8,8,8,8,8,8,8,8,8,8,8,8,8,8,8,8,8,8,8,8,8,8,8,8,8,8,8,8,8,8,8,8,8,8,8,8,8,8,8,8,8,8,8,8,8,8,8,8,8,8,8,8,8,8,8]⟩
theorem len8_get:∀y,y<256→len8[y]? =some (UInt8.ofNat (aJ y)):=by decide+kernel
theorem wc(h:Heap)(x:Nat)(hx:x<18446744073709551616):Sat Tryz.prog 118 #[.int .u64 ((x:Nat):Int)] h fun v h'=>v= .int .i64 ((aJ x:Nat):Int)∧h'=h:=by
 refine ak Tryz.func118 25 fun a hF=>qP [(2,.int .i64 0)] hF fun a hF=>cS<|qP [(4,.bool (decide ((4294967296:Int)≤((x:Nat):Int))))] hF fun a hF=>cJ 4 hF (fun hc1=> ?_) fun hc1=> ?_
 ·have La:2^32≤(x):=by omega
  refine qS hF<|t1 1 (.int .u64 ((x/2^32:Nat):Int)) (.int .u64 (Int.fdiv ((x:Nat):Int) (2^32))) (congrArg (Value.int .u64) (bV (x) 32))<|sT [(0,.int .u64 ((x/2^32:Nat):Int))] fun a hF=>rP [(2,.int .i64 32)] hF fun a hF=>tK<|cS<|qP [(8,.bool (decide ((65536:Int)≤((x/2^32:Nat):Int))))] hF fun a hF=> ?_
  refine cJ 8 hF (fun hc2=> ?_) fun hc2=> ?_
  ·have EL:2^16≤(x/2^32):=by omega
   refine qS hF<|t1 1 (.int .u64 (((x/2^32)/2^16:Nat):Int)) (.int .u64 (Int.fdiv ((x/2^32:Nat):Int) (2^16))) (congrArg (Value.int .u64) (bV (x/2^32) 16))<|sT [(0,.int .u64 (((x/2^32)/2^16:Nat):Int))] fun a hF=>rP [(2,.int .i64 48)] hF fun a hF=>tK<|cS<|qP [(14,.bool (decide ((256:Int)≤(((x/2^32)/2^16:Nat):Int))))] hF fun a hF=> ?_
   refine cJ 14 hF (fun hc3=> ?_) fun hc3=> ?_
   ·have hq8:2^8≤((x/2^32)/2^16):=by omega
    refine qS hF<|t1 1 (.int .u64 ((((x/2^32)/2^16)/2^8:Nat):Int)) (.int .u64 (Int.fdiv (((x/2^32)/2^16:Nat):Int) (2^8))) (congrArg (Value.int .u64) (bV ((x/2^32)/2^16) 8))<|sT [(0,.int .u64 ((((x/2^32)/2^16)/2^8:Nat):Int))] fun a hF=>rP [(2,.int .i64 56)] hF fun a hF=>tK<|qS hF<|t1 2 (bv (UInt8.ofNat (((x/2^32)/2^16)/2^8))) (.int .u8 (IntKind.u8.wrap ((((x/2^32)/2^16)/2^8:Nat):Int))) (bB _) ?_
    refine tC 3 (bv (UInt8.ofNat (aJ (((x/2^32)/2^16)/2^8)))) ((Calm.lf (t:=9) (n:=(((x/2^32)/2^16)/2^8)) (s:=len8) (by rw[show((((x/2^32)/2^16)/2^8:Nat):Int)=((UInt8.ofNat (((x/2^32)/2^16)/2^8)).toNat :Int) by rw[gQ (by omega)]];kernel_rfl) (by kernel_rfl) (len8_get _ (by omega))) _)<|t1 4 (.int .i64 ((aJ (((x/2^32)/2^16)/2^8):Nat):Int)) (.int .i64 (IntKind.i64.wrap ((UInt8.ofNat (aJ (((x/2^32)/2^16)/2^8))).toNat :Int))) (gP (y:=((x/2^32)/2^16)/2^8) (by omega)) ?_
    have hbl:=c9 (((x/2^32)/2^16)/2^8) (by omega)
    refine tA 5 56 (aJ (((x/2^32)/2^16)/2^8))<|sT [(2,nV (56+(aJ (((x/2^32)/2^16)/2^8))))] fun a hF=>cR<|rT 2 (nV (56+(aJ (((x/2^32)/2^16)/2^8)))) hF ?_
    have EM:=bM (x:=x) (k:=32) (by omega)
    have EN:=bM (x:=x/2^32) (k:=16) (by omega)
    have hs8:=bM (x:=(x/2^32)/2^16) (k:=8) (by omega)
    exact⟨congrArg (fun z:Nat=>Value.int .i64 (z:Int)) (by omega),rfl⟩
   ·have hq8:¬2^8≤((x/2^32)/2^16):=by omega
    refine cN<|tK<|qS hF<|t1 2 (bv (UInt8.ofNat ((x/2^32)/2^16))) (.int .u8 (IntKind.u8.wrap (((x/2^32)/2^16:Nat):Int))) (bB _)<|tC 3 (bv (UInt8.ofNat (aJ ((x/2^32)/2^16)))) ((Calm.lf (t:=9) (n:=((x/2^32)/2^16)) (s:=len8) (by rw[show(((x/2^32)/2^16:Nat):Int)=((UInt8.ofNat ((x/2^32)/2^16)).toNat :Int) by rw[gQ (by omega)]];kernel_rfl) (by kernel_rfl) (len8_get _ (by omega))) _)<|t1 4 (.int .i64 ((aJ ((x/2^32)/2^16):Nat):Int)) (.int .i64 (IntKind.i64.wrap ((UInt8.ofNat (aJ ((x/2^32)/2^16))).toNat :Int))) (gP (y:=(x/2^32)/2^16) (by omega)) ?_
    have hbl:=c9 ((x/2^32)/2^16) (by omega)
    refine tA 5 48 (aJ ((x/2^32)/2^16))<|sT [(2,nV (48+(aJ ((x/2^32)/2^16))))] fun a hF=>cR<|rT 2 (nV (48+(aJ ((x/2^32)/2^16)))) hF ?_
    have EM:=bM (x:=x) (k:=32) (by omega)
    have EN:=bM (x:=x/2^32) (k:=16) (by omega)
    exact⟨congrArg (fun z:Nat=>Value.int .i64 (z:Int)) (by omega),rfl⟩
  ·have EL:¬2^16≤(x/2^32):=by omega
   refine cN<|tK<|cS<|qP [(14,.bool (decide ((256:Int)≤((x/2^32:Nat):Int))))] hF fun a hF=>cJ 14 hF (fun hc4=> ?_) fun hc4=> ?_
   ·have hq8:2^8≤(x/2^32):=by omega
    refine qS hF<|t1 1 (.int .u64 (((x/2^32)/2^8:Nat):Int)) (.int .u64 (Int.fdiv ((x/2^32:Nat):Int) (2^8))) (congrArg (Value.int .u64) (bV (x/2^32) 8))<|sT [(0,.int .u64 (((x/2^32)/2^8:Nat):Int))] fun a hF=>rP [(2,.int .i64 40)] hF fun a hF=>tK<|qS hF<|t1 2 (bv (UInt8.ofNat ((x/2^32)/2^8))) (.int .u8 (IntKind.u8.wrap (((x/2^32)/2^8:Nat):Int))) (bB _) ?_
    refine tC 3 (bv (UInt8.ofNat (aJ ((x/2^32)/2^8)))) ((Calm.lf (t:=9) (n:=((x/2^32)/2^8)) (s:=len8) (by rw[show(((x/2^32)/2^8:Nat):Int)=((UInt8.ofNat ((x/2^32)/2^8)).toNat :Int) by rw[gQ (by omega)]];kernel_rfl) (by kernel_rfl) (len8_get _ (by omega))) _)<|t1 4 (.int .i64 ((aJ ((x/2^32)/2^8):Nat):Int)) (.int .i64 (IntKind.i64.wrap ((UInt8.ofNat (aJ ((x/2^32)/2^8))).toNat :Int))) (gP (y:=(x/2^32)/2^8) (by omega)) ?_
    have hbl:=c9 ((x/2^32)/2^8) (by omega)
    refine tA 5 40 (aJ ((x/2^32)/2^8))<|sT [(2,nV (40+(aJ ((x/2^32)/2^8))))] fun a hF=>cR<|rT 2 (nV (40+(aJ ((x/2^32)/2^8)))) hF ?_
    have EM:=bM (x:=x) (k:=32) (by omega)
    have hs8:=bM (x:=x/2^32) (k:=8) (by omega)
    exact⟨congrArg (fun z:Nat=>Value.int .i64 (z:Int)) (by omega),rfl⟩
   ·have hq8:¬2^8≤(x/2^32):=by omega
    refine cN<|tK<|qS hF<|t1 2 (bv (UInt8.ofNat (x/2^32))) (.int .u8 (IntKind.u8.wrap ((x/2^32:Nat):Int))) (bB _)<|tC 3 (bv (UInt8.ofNat (aJ (x/2^32)))) ((Calm.lf (t:=9) (n:=(x/2^32)) (s:=len8) (by rw[show((x/2^32:Nat):Int)=((UInt8.ofNat (x/2^32)).toNat :Int) by rw[gQ (by omega)]];kernel_rfl) (by kernel_rfl) (len8_get _ (by omega))) _)<|t1 4 (.int .i64 ((aJ (x/2^32):Nat):Int)) (.int .i64 (IntKind.i64.wrap ((UInt8.ofNat (aJ (x/2^32))).toNat :Int))) (gP (y:=x/2^32) (by omega)) ?_
    have hbl:=c9 (x/2^32) (by omega)
    refine tA 5 32 (aJ (x/2^32))<|sT [(2,nV (32+(aJ (x/2^32))))] fun a hF=>cR<|rT 2 (nV (32+(aJ (x/2^32)))) hF ?_
    have EM:=bM (x:=x) (k:=32) (by omega)
    exact⟨congrArg (fun z:Nat=>Value.int .i64 (z:Int)) (by omega),rfl⟩
 ·have La:¬2^32≤(x):=by omega
  refine cN<|tK<|cS<|qP [(8,.bool (decide ((65536:Int)≤((x:Nat):Int))))] hF fun a hF=>cJ 8 hF (fun hc5=> ?_) fun hc5=> ?_
  ·have EL:2^16≤(x):=by omega
   refine qS hF<|t1 1 (.int .u64 ((x/2^16:Nat):Int)) (.int .u64 (Int.fdiv ((x:Nat):Int) (2^16))) (congrArg (Value.int .u64) (bV (x) 16))<|sT [(0,.int .u64 ((x/2^16:Nat):Int))] fun a hF=>rP [(2,.int .i64 16)] hF fun a hF=>tK<|cS<|qP [(14,.bool (decide ((256:Int)≤((x/2^16:Nat):Int))))] hF fun a hF=> ?_
   refine cJ 14 hF (fun hc6=> ?_) fun hc6=> ?_
   ·have hq8:2^8≤(x/2^16):=by omega
    refine qS hF<|t1 1 (.int .u64 (((x/2^16)/2^8:Nat):Int)) (.int .u64 (Int.fdiv ((x/2^16:Nat):Int) (2^8))) (congrArg (Value.int .u64) (bV (x/2^16) 8))<|sT [(0,.int .u64 (((x/2^16)/2^8:Nat):Int))] fun a hF=>rP [(2,.int .i64 24)] hF fun a hF=>tK<|qS hF<|t1 2 (bv (UInt8.ofNat ((x/2^16)/2^8))) (.int .u8 (IntKind.u8.wrap (((x/2^16)/2^8:Nat):Int))) (bB _) ?_
    refine tC 3 (bv (UInt8.ofNat (aJ ((x/2^16)/2^8)))) ((Calm.lf (t:=9) (n:=((x/2^16)/2^8)) (s:=len8) (by rw[show(((x/2^16)/2^8:Nat):Int)=((UInt8.ofNat ((x/2^16)/2^8)).toNat :Int) by rw[gQ (by omega)]];kernel_rfl) (by kernel_rfl) (len8_get _ (by omega))) _)<|t1 4 (.int .i64 ((aJ ((x/2^16)/2^8):Nat):Int)) (.int .i64 (IntKind.i64.wrap ((UInt8.ofNat (aJ ((x/2^16)/2^8))).toNat :Int))) (gP (y:=(x/2^16)/2^8) (by omega)) ?_
    have hbl:=c9 ((x/2^16)/2^8) (by omega)
    refine tA 5 24 (aJ ((x/2^16)/2^8))<|sT [(2,nV (24+(aJ ((x/2^16)/2^8))))] fun a hF=>cR<|rT 2 (nV (24+(aJ ((x/2^16)/2^8)))) hF ?_
    have EN:=bM (x:=x) (k:=16) (by omega)
    have hs8:=bM (x:=x/2^16) (k:=8) (by omega)
    exact⟨congrArg (fun z:Nat=>Value.int .i64 (z:Int)) (by omega),rfl⟩
   ·have hq8:¬2^8≤(x/2^16):=by omega
    refine cN<|tK<|qS hF<|t1 2 (bv (UInt8.ofNat (x/2^16))) (.int .u8 (IntKind.u8.wrap ((x/2^16:Nat):Int))) (bB _)<|tC 3 (bv (UInt8.ofNat (aJ (x/2^16)))) ((Calm.lf (t:=9) (n:=(x/2^16)) (s:=len8) (by rw[show((x/2^16:Nat):Int)=((UInt8.ofNat (x/2^16)).toNat :Int) by rw[gQ (by omega)]];kernel_rfl) (by kernel_rfl) (len8_get _ (by omega))) _)<|t1 4 (.int .i64 ((aJ (x/2^16):Nat):Int)) (.int .i64 (IntKind.i64.wrap ((UInt8.ofNat (aJ (x/2^16))).toNat :Int))) (gP (y:=x/2^16) (by omega)) ?_
    have hbl:=c9 (x/2^16) (by omega)
    refine tA 5 16 (aJ (x/2^16))<|sT [(2,nV (16+(aJ (x/2^16))))] fun a hF=>cR<|rT 2 (nV (16+(aJ (x/2^16)))) hF ?_
    have EN:=bM (x:=x) (k:=16) (by omega)
    exact⟨congrArg (fun z:Nat=>Value.int .i64 (z:Int)) (by omega),rfl⟩
  ·have EL:¬2^16≤(x):=by omega
   refine cN<|tK<|cS<|qP [(14,.bool (decide ((256:Int)≤((x:Nat):Int))))] hF fun a hF=>cJ 14 hF (fun B5=> ?_) fun B5=> ?_
   ·have hq8:2^8≤(x):=by omega
    refine qS hF<|t1 1 (.int .u64 ((x/2^8:Nat):Int)) (.int .u64 (Int.fdiv ((x:Nat):Int) (2^8))) (congrArg (Value.int .u64) (bV (x) 8))<|sT [(0,.int .u64 ((x/2^8:Nat):Int))] fun a hF=>rP [(2,.int .i64 8)] hF fun a hF=>tK<|qS hF<|t1 2 (bv (UInt8.ofNat (x/2^8))) (.int .u8 (IntKind.u8.wrap ((x/2^8:Nat):Int))) (bB _) ?_
    refine tC 3 (bv (UInt8.ofNat (aJ (x/2^8)))) ((Calm.lf (t:=9) (n:=(x/2^8)) (s:=len8) (by rw[show((x/2^8:Nat):Int)=((UInt8.ofNat (x/2^8)).toNat :Int) by rw[gQ (by omega)]];kernel_rfl) (by kernel_rfl) (len8_get _ (by omega))) _)<|t1 4 (.int .i64 ((aJ (x/2^8):Nat):Int)) (.int .i64 (IntKind.i64.wrap ((UInt8.ofNat (aJ (x/2^8))).toNat :Int))) (gP (y:=x/2^8) (by omega)) ?_
    have hbl:=c9 (x/2^8) (by omega)
    refine tA 5 8 (aJ (x/2^8))<|sT [(2,nV (8+(aJ (x/2^8))))] fun a hF=>cR<|rT 2 (nV (8+(aJ (x/2^8)))) hF ?_
    have hs8:=bM (x:=x) (k:=8) (by omega)
    exact⟨congrArg (fun z:Nat=>Value.int .i64 (z:Int)) (by omega),rfl⟩
   ·have hq8:¬2^8≤(x):=by omega
    refine cN<|tK<|qS hF<|t1 2 (bv (UInt8.ofNat x)) (.int .u8 (IntKind.u8.wrap ((x:Nat):Int))) (bB _)<|tC 3 (bv (UInt8.ofNat (aJ x))) ((Calm.lf (t:=9) (n:=x) (s:=len8) (by rw[show((x:Nat):Int)=((UInt8.ofNat x).toNat :Int) by rw[gQ (by omega)]];kernel_rfl) (by kernel_rfl) (len8_get _ (by omega))) _)<|t1 4 (.int .i64 ((aJ x:Nat):Int)) (.int .i64 (IntKind.i64.wrap ((UInt8.ofNat (aJ x)).toNat :Int))) (gP (y:=x) (by omega)) ?_
    have hbl:=c9 (x) (by omega)
    exact t1 5 (.int .i64 ((aJ x:Nat):Int)) (.int .i64 (IntKind.i64.wrap (0+((aJ x:Nat):Int)))) (congrArg (Value.int .i64) (gI (by omega) (by omega) (by omega)))<|sT [(2,nV (aJ x))] fun a hF=>cR<|rT 2 (nV (aJ x)) hF<|⟨congrArg (fun z:Nat=>Value.int .i64 (z:Int)) (by omega),rfl⟩
noncomputable def b90:Code:=Tryz.f90.body.getD .skip
theorem B6(h:Heap)(x:Nat)(hx:x<18446744073709551616):Sat Tryz.prog 90 #[.int .u64 ((x:Nat):Int)] h fun v h'=>v= .int .i64 ((aJ x:Nat):Int)∧h'=h:=by
 refine ak Tryz.func90 8 fun a hF=>qP [] hF fun a hF=>cS<|C.Et [1,0,0] [1,0,1] (by kernel_rfl)<|cN<|tK<|qS hF ?_
 exact tC 1 (nV (aJ x)) (Does.call (f:=118) (args:= #[.int .u64 ((x:Nat):Int)]) (by kernel_rfl) (wc _ x hx))<|sT [(2,nV (aJ x))] fun a hF=>cR<|rT 2 (nV (aJ x)) hF<|⟨rfl,rfl⟩
noncomputable def Pw:Code:=Tryz.f104.body.getD .skip
theorem we(h:Heap)(n:Nat)(hn:2≤n)(hn2:n≤9223372036854775807):Sat Tryz.prog 104 #[.int .i64 ((n:Nat):Int)] h fun v h'=>v= .int .i64 ((half n:Nat):Int)∧h'=h:=by
 have hbl:=vR (x:=n - 1) (k:=63) (by omega)
 have Px:1≤aJ (n - 1):=by unfold aJ;rw[if_neg (by omega)];omega
 refine ak Tryz.func104 9 fun a hF=>qP [] hF fun a hF=>qS hF<|tU 1 n 1<|t1 2 (.int .u64 ((n - 1:Nat):Int)) (.int .u64 (IntKind.u64.wrap ((n - 1:Nat):Int))) (congrArg (Value.int .u64) (nY (by omega)))<|tC 3 (nV (aJ (n - 1))) (Does.call (f:=90) (args:= #[.int .u64 ((n - 1:Nat):Int)]) (by kernel_rfl) (B6 _ (n - 1) (by omega)))<|tU 4 (aJ (n - 1)) 1 ?_
 exact tC 5 (nV (2^((aJ (n - 1)) - 1))) ((Calm.KI ((aJ (n - 1)) - 1) (by kernel_rfl) (by omega)) _)<|sT [(2,nV (2^((aJ (n - 1)) - 1)))] fun a hF=>cR<|rT 2 (nV (2^((aJ (n - 1)) - 1))) hF<|⟨congrArg (fun z:Nat=>Value.int .i64 (z:Int)) (sL hn),rfl⟩
noncomputable def b87:Code:=Tryz.f87.body.getD .skip
theorem oX(h:Heap)(n:Nat)(hn:2≤n)(hn2:n≤1099511627776):Sat Tryz.prog 87 #[.int .i64 ((n:Nat):Int)] h fun v h'=>v= .int .i64 ((half n:Nat):Int)∧h'=h:=by
 refine ak Tryz.func87 11 fun a hF=>qP [] hF fun a hF=>qP [(3,.int .i64 1)] hF fun a hF=>cS<|cB 0<|cL (fun m a h'=>∃j:Nat,m=n - 2^j∧(2^j<n)∧(h=h')∧(Fr a 11 [(0,.int .i64 ((n:Nat):Int)),(3,.int .i64 ((2^j:Nat):Int))])) (n - 1) ⟨0,rfl,(by omega),rfl,hF.to⟩ ?_
 clear hF a
 rintro m a h1 ⟨j,rfl,hj,hh,hF⟩
 have hp:=Nat.two_pow_pos j
 refine cS<|qS hF<|t1 1 (.int .i64 ((2*(2^j):Nat):Int)) (.int .i64 (IntKind.i64.wrap (2*((2^j:Nat):Int)))) (congrArg (Value.int .i64) (gI (by omega) (by omega) (by omega)))<|sT [(7,.bool (decide (((2*(2^j):Nat):Int)<((n:Nat):Int))))] fun a hF=>cJ 7 hF (fun hc2=> ?_) fun hc2=> ?_
 ·refine cN<|tK<|cB 1<|rS hF<|t1 1 (.int .i64 ((2*(2^j):Nat):Int)) (.int .i64 (IntKind.i64.wrap (2*((2^j:Nat):Int)))) (congrArg (Value.int .i64) (gI (by omega) (by omega) (by omega)))<|sE [(3,nV (2*(2^j)))] fun a hF=>bK ?_
  have hk2:2*2^j=2^(j+1):=by rw[Nat.pow_succ,Nat.mul_comm]
  rw[hk2] at hF
  show ∃m',m'<_∧_
  refine⟨_,?_,(j+1),rfl,(by rw[Nat.pow_succ];omega),hh,hF.to⟩
  omega
 ·refine cX 0 (xT (xT (xB ?_)))
  exact tK<|qP [(2,nV (2^j))] hF fun a hF=>cR<|rT 2 (nV (2^j)) hF<|⟨congrArg (fun z:Nat=>Value.int .i64 (z:Int)) (uN hj (by omega)).symm,hh.symm⟩
end Go.Proofs.YtegkejcglfgpmaaGreatDoor
end
section
namespace Go.Proofs.YtegkejcglfgpmaaGreatDoor
open Go Go.an Go.aT
noncomputable def Py:Code:=Tryz.f105.body.getD .skip
theorem q5(h:Heap)(ad:Option Addr)(cap n:Nat)(L:List Hs)(aE:Own h (.slice ad n cap) 39 n 32 (hcs L))(h32:aB L)(hLn:L.length =n)(hn:n≤1099511627776):Sat Tryz.prog 105 #[.slice ad n cap] h fun _ h'=>Own h' (.slice ad n cap) 39 n 32 (hcs L.reverse)∧Grew (ad.map (·.block)) h h':=by
 have g0:Grew (ad.map (·.block)) h h:=Grew.refl _ _
 refine ak Tryz.func105 28 fun a hF=>qS hF<|t1 2 (.int .i64 (((n:Nat):Int) - 1)) (.int .i64 (IntKind.i64.wrap (((n:Nat):Int) - 1))) (congrArg (Value.int .i64) (qn (by omega) (by omega)))<|sT [(2,.int .i64 0),(3,.int .i64 (((n:Nat):Int) - 1))] fun a hF=>cB 0 ?_
 have hst:(((n:Nat):Int) - 1)=((n:Nat):Int) - 1 - ((0:Nat):Int):=by omega
 rw[hst] at hF
 refine cL (fun m a h'=>∃t:Nat,∃L':List Hs,m=n - t∧(Grew (ad.map (·.block)) h h')∧(n9 L L' t)∧(aB L')∧(Own h' (.slice ad n cap) 39 n 32 (hcs L'))∧(Fr a 28 [(0,.slice ad n cap),(2,.int .i64 ((t:Nat):Int)),(3,.int .i64 (((n:Nat):Int) - 1 - ((t:Nat):Int)))])) (n - 0) ⟨0,L,rfl,g0,(n9.start L),h32,aE,hF.to⟩ ?_
 clear hF a
 clear g0
 clear h32
 clear aE
 rintro m a h1 ⟨t,L',rfl,g0,Jx,j3,aE,hF⟩
 refine cS<|qP [(9,.bool (decide (((t:Nat):Int)<(((n:Nat):Int) - 1 - ((t:Nat):Int)))))] hF fun a hF=>cJ 9 hF (fun hc2=> ?_) fun hc2=> ?_
 ·have NF:L'.length =n:=Jx.1.trans hLn
  have hj:(((n:Nat):Int) - 1 - ((t:Nat):Int))=((n - 1 - t:Nat):Int):=by omega
  rw[hj] at hF
  have hlt:t<n - 1 - t:=by omega
  obtain⟨aa,rfl,hcap⟩:=aE.a6 (by omega)
  have hr':=HR.of aE j3
  have hx1:(L'.getD (n - 1 - t) []).length =32:=j3.get (by omega)
  have hx2:(L'.getD t []).length =32:=j3.get (by omega)
  have Lb:n9 L ((L'.set t (L'.getD (n - 1 - t) [])).set (n - 1 - t) (L'.getD t [])) (t+1):=by have:=Jx.step (by rw[hLn];exact hlt);rw[hLn] at this;exact this
  have hls:(L'.set t (L'.getD (n - 1 - t) [])).length =n:=by rw[List.length_set];exact NF
  refine cN<|tK<|cS<|cB 1<|cD [0,0,0,0,0,0,48,112,0,0,768,1792,4083,8179,16383,32767] 3 mixed hF<|mP 63 [0,1,2,3,4,5] [.slice (some aa) n cap,nV t,.slice (some aa) n cap,nV (n - 1 - t),.slice (some aa) n cap,nV (n - 1 - t)]<|mI 127 6 aa n 32 (n - 1 - t) ((n - 1 - t)*32) ?_
  refine mH 255 128 7 (n - 1 - t) (HR.of aE j3)<|mP 1023 [8,9] [.slice (some aa) n cap,nV t]<|mI 2047 10 aa n 32 t (t*32)<|mH 4095 2176 11 t (HR.of aE j3)<|mI 8191 12 aa n 32 t (t*32)<|jv 16383 16371 13 (Does.c5 (a:=aa) (q:=t*32) (vs:=(L'.getD (n - 1 - t) []).map bv) (bz (by kernel_rfl) (hlm (hr'.2.1.get (k:=(n - 1 - t)) (by rw[hr'.2.2];omega)))) aE (by rw[hlm (hr'.2.1.get (k:=(n - 1 - t)) (by rw[hr'.2.2];omega))];omega) (aI _)) ?_
  rintro _ h4 ⟨rfl,aE,g3⟩
  replace g0:=g0.trans g3
  rw[uP j3 (k:=t) (by omega) (hr'.2.1.get (k:=(n - 1 - t)) (by rw[hr'.2.2];omega))] at aE
  refine mI 32767 14 aa n 32 (n - 1 - t) ((n - 1 - t)*32)<|jv 65535 65535 15 (Does.c5 (a:=aa) (q:=(n - 1 - t)*32) (vs:=(L'.getD t []).map bv) (bz (by kernel_rfl) (hlm (hr'.2.1.get (k:=t) (by rw[hr'.2.2];omega)))) aE (by rw[hlm (hr'.2.1.get (k:=t) (by rw[hr'.2.2];omega))];omega) (aI _)) ?_
  rintro _ h6 ⟨rfl,aE,g5⟩
  replace g0:=g0.trans g5
  rw[uP (j3.set hx1) (k:=n - 1 - t) (by omega) (hr'.2.1.get (k:=t) (by rw[hr'.2.2];omega))] at aE
  refine mE [] fun a hF=>bK<|tK<|rS hF<|tA 1 t 1<|tU 3 (n - 1 - t) 1<|sE [(2,nV (t+1)),(3,nV ((n - 1 - t) - 1))] fun a hF=> ?_
  have hnx:((n - 1 - t - 1:Nat):Int)=((n:Nat):Int) - 1 - ((t+1:Nat):Int):=by omega
  simp only[nV,hnx] at hF
  show ∃m',m'<_∧_
  refine⟨_,?_,(t+1),((L'.set t (L'.getD (n - 1 - t) [])).set (n - 1 - t) (L'.getD t [])),rfl,g0,Lb,((j3.set hx1).set hx2),aE,hF.to⟩
  omega
 ·refine cX 0 (xT (xT (xB ?_)))
  refine n0 hF ?_
  have NF:L'.length =n:=Jx.1.trans hLn
  have e:=Jx.done (by omega)
  exact⟨e▸aE,g0⟩
end Go.Proofs.YtegkejcglfgpmaaGreatDoor
end
section
namespace Go.Proofs.YtegkejcglfgpmaaGreatDoor
open Go Go.an Go.aT
noncomputable def b71:Code:=Tryz.f71.body.getD .skip
set_option maxHeartbeats 1000000 in
theorem wg(h:Heap)(L:List Hs)(va:Option Addr)(vc n:Nat)(hL:HR h va vc n L)(hn:n≤1099511627000)(m:Int)(kt:bH h):Sat Tryz.prog 71 #[.slice va n vc,.int .i64 m] h fun v h'=>∃s,v= .tuple #[s,.int .i64 (c7 L m).2]∧b1 h h' 39 s (c7 L m).1 :=by
 have hLn:=hL.2.2
 have e0:=Ext.refl h
 have dL:=kt.lt
 have sep:Sep h.size h.size []:=Sep.nil _ _
 refine ak Tryz.func71 51 fun a hF=>qP [] hF fun a hF=>cS<|cS ?_
 have F6:m<0∨(n:Int)≤m∨∃k:Nat,m=(k:Int)∧k<n:=by
  rcases Int.lt_or_le m 0 with h0|h0
  ·exact .inl h0
  ·rcases Int.lt_or_le m n with h1|h1
   ·exact .inr (.inr ⟨m.toNat,by omega,by omega⟩)
   ·exact .inr (.inl h1)
 rcases F6 with hm0|hm0|⟨k,rfl,hk⟩
 ·refine rS hF<|tT 1 (m<(0:Int))<|sE [(15,.bool true)] fun a hF=>tK<|cT 15 hF<|qP [(4,.slice none 0 0),(5,.int .i64 50)] hF fun a hF=>cR (yT ?_)
  refine aK [.tmp 4,.tmp 5] [.slice none 0 0,.int .i64 50] (.tuple #[.slice none 0 0,.int .i64 50]) rfl hF ⟨rfl,rfl,trivial⟩ rfl ?_
  rw[jP (by omega)];exact⟨_,rfl,b1.none e0⟩
 ·refine rS hF<|tX 1 (m<(0:Int))<|tT 6 (((n:Nat):Int)≤m)<|sE [(15,.bool true)] fun a hF=>tK<|cT 15 hF<|qP [(4,.slice none 0 0),(5,.int .i64 50)] hF fun a hF=> ?_
  refine cR (yT ?_)
  refine aK [.tmp 4,.tmp 5] [.slice none 0 0,.int .i64 50] (.tuple #[.slice none 0 0,.int .i64 50]) rfl hF ⟨rfl,rfl,trivial⟩ rfl ?_
  rw[jP (by omega)];exact⟨_,rfl,b1.none e0⟩
 ·refine rS hF<|tX 1 (((k:Nat):Int)<(0:Int))<|tX 6 (((n:Nat):Int)≤((k:Nat):Int))<|sE [(15,.bool false)] fun a hF=>tK<|cF 15 hF<|cN ?_
  refine tK<|qP [(6,.slice none 0 0)] hF fun a hF=>cS<|cB 0 ?_
  have aE:Own h (.slice none 0 0) 39 0 32 (hcs []):=Own.nil _ _ _
  have hlo:=e0.size
  replace sep:=sep.none hlo;clear hlo
  have hinv:incl L k=incl L k++([]:List Hs).reverse :=by simp
  refine cL (fun m a h'=>∃L':List Hs,∃B7:Option Addr,∃ku:Nat,∃n':Nat,∃m':Nat,∃p:List Hs,∃ad:Option Addr,∃cap:Nat,m=n'+1∧(Ext h h')∧(bH h')∧(HR h B7 ku n' L')∧(m'<n'∧n'+p.length ≤n)∧(incl L k=incl L' m'++p.reverse)∧(aB p)∧(Own h' (.slice ad p.length cap) 39 p.length 32 (hcs p))∧(Sep h.size h'.size [ad.map (·.block)])∧(Fr a 51 [(0,.slice B7 n' ku),(1,.int .i64 ((m':Nat):Int)),(6,.slice ad p.length cap)])) (n+1) ⟨L,va,vc,n,k,[],none,0,rfl,e0,kt,hL,(by simp;omega),hinv,aB.nil,aE,sep,hF.to⟩ ?_
  clear hF a
  clear e0
  clear kt
  clear hL
  clear hinv
  clear aE
  clear sep
  rintro m a h1 ⟨L',B7,ku,n',m',p,ad,cap,rfl,e0,kt,hL',hm',hinv,EO,aE,sep,hF⟩
  have B8:=hL'.2.2
  refine cS<|qP [(18,.bool (decide ((1:Int)<((n':Nat):Int))))] hF fun a hF=>cJ 18 hF (fun hc2=> ?_) fun hc2=> ?_
  ·obtain⟨aa,rfl,hcap⟩:=hL'.a6 (by omega)
   have NG:=dU (n:=n') (by omega)
   have NH:=dj n'
   obtain⟨cW,dK⟩:∃x,x=if ku=half n' then (some aa:Option Addr) else (some aa:Option Addr).map (·.add (half n'*32)):=⟨_,rfl⟩
   refine cN<|tK<|cB 1<|qS hF<|tC 2 (nV (half n')) (Does.call (f:=104) (args:= #[nV (n')]) (by kernel_rfl) (we _ n' (by omega) (by omega)))<|sT [(7,nV (half n'))] fun a hF=>qP [(24,.bool (decide (((m':Nat):Int)<((half n':Nat):Int))))] hF fun a hF=> ?_
   refine cJ 24 hF (fun hc3=> ?_) fun hc3=> ?_
   ·refine qS hF<|tC 3 (.slice cW (n' - half n') (ku - half n')) ((fun h=>Calm.b6 (a:=(some aa)) (len:=n') (cap:=ku) (sz:=32) (x:=cW) (half n') n' ku (n' - half n') (ku - half n') (by kernel_rfl) (.inl ⟨rfl,rfl⟩) (.inl ⟨rfl,rfl⟩) (.inr rfl) (by omega) (by omega) dK (by first|rfl|omega) (by first|rfl|omega) h) _)<|tG 4 (iG _ (L'.drop (half n')) _ _ (n' - half n') ((hL'.ext e0).drop (by omega) dK) kt (by omega)) ?_
    rintro _ h5 ⟨rfl,g4⟩
    refine tF 5 (Does.newHs (L:=[root (L'.drop (half n'))]) (t:=45) (E:=39) (dT:=32) (n:=1) (by kernel_rfl) (by kernel_rfl) (aB.cons (bb (hL'.2.1.drop _)) aB.nil) rfl (by decide) (by decide)) ?_
    rintro _ h6 ⟨rfl,hh⟩
    have g7:Ext h5 h6:=a8 hh
    have m8:h6[h5.size]? =some (.cells (hcs [root (L'.drop (half n'))]).toArray 39):=bx hh
    clear hh
    replace e0:=e0.ext g4
    have hlo:=e0.size
    replace sep:=sep.up g4.size
    have a7:=sep
    replace sep:=sep.up g7.size
    replace sep:=a7.new hlo (ag m8)
    clear a7 hlo
    replace aE:=(aE.ext g4).ext g7
    refine tP 6 ((p++[root (L'.drop (half n'))]).length) 32 (hcs (p++[root (L'.drop (half n'))])) aE (hrow1 (bb (hL'.2.1.drop _)) m8) (dB _) (fun qi ew h11 aE g12 lF=> ?_) (ys:=(hcs ([root (L'.drop (half n'))]))) (hZ:=by first|rfl|exact(bk _ _).symm |simp[bk])
    replace e0:=e0.ext g7
    have s14:=sep
    replace sep:=sep.sa g12 1 lF aE e0.size;clear lF
    clear m8
    replace kt:=((kt.ext g4).ext g7).grew g12 (s14.zero 1 rfl dL)
    replace e0:=e0.grew g12 (s14.l 1)
    replace sep:=sep.sub (l':=[qi.map (·.block)]) (.cons _ (.cons_cons _ (.slnil)))
    refine sT [(6,.slice qi ((p++[root (L'.drop (half n'))]).length) ew)] fun a hF=>rS hF<|tC 2 (.slice (some aa) (half n') ku) ((fun h=>Calm.b6 (a:=(some aa)) (len:=n') (cap:=ku) (sz:=32) (x:=(some aa)) 0 (half n') ku (half n') ku (by kernel_rfl) (.inl ⟨rfl,rfl⟩) (.inr rfl) (.inl ⟨rfl,rfl⟩) (by omega) (by omega) (eR _ 32) (by first|rfl|omega) (by first|rfl|omega) h) _)<|sE [(0,.slice (some aa) (half n') ku)] fun a hF=> ?_
    have hL2:=hL'.take (k:=half n') (by omega)
    have zi:incl L k=incl (L'.take (half n')) m'++(p++[root (L'.drop (half n'))]).reverse :=by rw[hinv,lM (l:=L') (by omega) (by rw[B8];omega),B8];simp
    have hm2:m'<half n'∧half n'+(p++[root (L'.drop (half n'))]).length ≤n:=by rw[List.length_append,List.length_singleton];omega
    have zj:aB (p++[root (L'.drop (half n'))]):=EO.append (aB.one (bb (hL'.2.1.drop _)))
    refine bK ?_
    show ∃m',m'<_∧_
    refine⟨_,?_,_,_,_,(half n'),_,_,qi,ew,rfl,e0,kt,hL2,hm2,zi,zj,aE,sep,hF.to⟩
    omega
   ·refine qS hF<|tC 3 (.slice (some aa) (half n') ku) ((fun h=>Calm.b6 (a:=(some aa)) (len:=n') (cap:=ku) (sz:=32) (x:=(some aa)) 0 (half n') ku (half n') ku (by kernel_rfl) (.inl ⟨rfl,rfl⟩) (.inr rfl) (.inl ⟨rfl,rfl⟩) (by omega) (by omega) (eR _ 32) (by first|rfl|omega) (by first|rfl|omega) h) _)<|tG 4 (iG _ (L'.take (half n')) _ _ (half n') ((hL'.ext e0).take (k:=half n') (by omega)) kt (by omega)) ?_
    rintro _ h16 ⟨rfl,g15⟩
    refine tF 5 (Does.newHs (L:=[root (L'.take (half n'))]) (t:=45) (E:=39) (dT:=32) (n:=1) (by kernel_rfl) (by kernel_rfl) (aB.cons (bb (hL'.2.1.take _)) aB.nil) rfl (by decide) (by decide)) ?_
    rintro _ h17 ⟨rfl,hh⟩
    have g18:Ext h16 h17:=a8 hh
    have m19:h17[h16.size]? =some (.cells (hcs [root (L'.take (half n'))]).toArray 39):=bx hh
    clear hh
    replace e0:=e0.ext g15
    have hlo:=e0.size
    replace sep:=sep.up g15.size
    have a7:=sep
    replace sep:=sep.up g18.size
    replace sep:=a7.new hlo (ag m19)
    clear a7 hlo
    replace aE:=(aE.ext g15).ext g18
    refine tP 6 ((p++[root (L'.take (half n'))]).length) 32 (hcs (p++[root (L'.take (half n'))])) aE (hrow1 (bb (hL'.2.1.take _)) m19) (dB _) (fun pO oY h22 aE g23 zk=> ?_) (ys:=(hcs ([root (L'.take (half n'))]))) (hZ:=by first|rfl|exact(bk _ _).symm |simp[bk])
    replace e0:=e0.ext g18
    have zl:=sep
    replace sep:=sep.sa g23 1 zk aE e0.size;clear zk
    clear m19
    replace kt:=((kt.ext g15).ext g18).grew g23 (zl.zero 1 rfl dL)
    replace e0:=e0.grew g23 (zl.l 1)
    replace sep:=sep.sub (l':=[pO.map (·.block)]) (.cons _ (.cons_cons _ (.slnil)))
    refine sT [(6,.slice pO ((p++[root (L'.take (half n'))]).length) oY)] fun a hF=>rS hF<|tC 2 (.slice cW (n' - half n') (ku - half n')) ((fun h=>Calm.b6 (a:=(some aa)) (len:=n') (cap:=ku) (sz:=32) (x:=cW) (half n') n' ku (n' - half n') (ku - half n') (by kernel_rfl) (.inl ⟨rfl,rfl⟩) (.inl ⟨rfl,rfl⟩) (.inr rfl) (by omega) (by omega) dK (by first|rfl|omega) (by first|rfl|omega) h) _)<|tU 5 m' (half n')<|sE [(0,.slice cW (n' - half n') (ku - half n')),(1,nV (m' - (half n')))] fun a hF=> ?_
    have hL2:=hL'.drop (k:=half n') (by omega) dK
    have zi:incl L k=incl (L'.drop (half n')) (m' - half n')++(p++[root (L'.take (half n'))]).reverse :=by rw[hinv,lN (l:=L') (by omega) (by rw[B8];omega),B8];simp
    have hm2:m' - half n'<n' - half n'∧n' - half n'+(p++[root (L'.take (half n'))]).length ≤n:=by rw[List.length_append,List.length_singleton];omega
    have zj:aB (p++[root (L'.take (half n'))]):=EO.append (aB.one (bb (hL'.2.1.take _)))
    refine bK ?_
    show ∃m',m'<_∧_
    refine⟨_,?_,_,_,_,(n' - half n'),_,_,pO,oY,rfl,e0,kt,hL2,hm2,zi,zj,aE,sep,hF.to⟩
    omega
  ·refine cX 0 (xT (xT (xB ?_)))
   refine tK<|qS hF<|tG 1 (q5 _ ad cap p.length p aE EO rfl (by omega)) ?_
   rintro _ nN ⟨aq,g⟩
   replace e0:=e0.grew g (sep.l 0)
   replace kt:=kt.grew g (sep.zero 0 rfl dL)
   replace sep:=sep.up g.size
   clear aE;have aE:=aq;clear aq g
   refine sT [] fun a hF=>qP [(4,.slice ad p.length cap),(5,.int .i64 0)] hF fun a hF=>cR<|aK [.tmp 4,.tmp 5] [.slice ad p.length cap,.int .i64 0] (.tuple #[.slice ad p.length cap,.int .i64 0]) rfl hF ⟨rfl,rfl,trivial⟩ rfl ?_
   rw[oO (by omega)]
   exact⟨_,rfl,b1.cast (p:=p.reverse) (by rw[hinv,fy (by omega)];rfl) ⟨ad,cap,by rw[List.length_reverse],by rw[List.length_reverse];exact aE,sep.low 0 rfl,e0⟩⟩
end Go.Proofs.YtegkejcglfgpmaaGreatDoor
end
section
namespace Go.Proofs.YtegkejcglfgpmaaGreatDoor
open Go Go.an Go.aT
noncomputable def Pz:Code:=Tryz.f121.body.getD .skip
set_option maxHeartbeats 1000000 in
theorem s8(h:Heap)(b:List UInt8)(va:Option Addr)(vc:Nat)(hr:Row h (.slice va b.length vc) b.length 1 (b.map bv))(hbl:b.length ≤1099511627000):Sat Tryz.prog 121 #[.slice va b.length vc] h fun v h'=>Ex h h' 32 5 v b:=by
 have hnl:=kK b.length
 have e0:=Ext.refl h
 have sep:Sep h.size h.size []:=Sep.nil _ _
 refine ak Tryz.func121 30 fun a hF=>qP [] hF fun a hF=>qS hF<|tN 0 (.slice (some ⟨h.size,0,none⟩) 0 0) #[] 5 fun h1 g2 m3=> ?_
 replace sep:=sep.nw e0.size m3
 have ae:Own h1 (.slice (some ⟨h.size,0,none⟩) 0 0) 5 ([]:List UInt8).length 1 (([]:List UInt8).map bv):=Own.empty 1 m3
 replace sep:Sep h.size h1.size [(some ⟨h.size,0,none⟩:Option Addr).map (·.block)]:=sep
 replace e0:=e0.ext g2
 clear m3
 refine tP 2 b.length 1 (b.map bv) ae (hr.ext e0) (aI _) (fun dH cap5 h6 ae g7 hb8=> ?_) (hl:=(by unfold maxLen;simp;omega)) (hb:=(by simp;omega))
 have s9:=sep
 replace sep:=sep.sa g7 0 hb8 ae e0.size;clear hb8
 refine sT [(3,.slice dH b.length cap5)] fun a hF=>qP [(4,.slice none 0 0)] hF fun a hF=>cS<|qP [(5,.int .i64 0)] hF fun a hF=>cB 0 ?_
 have af:Own h6 (.slice none 0 0) 32 0 1 ((uW none b 0)):=Own.nil _ _ _
 replace af:Own h6 (.slice none 0 0) 32 0 1 (uW dH b 0):=af
 replace e0:=e0.grew g7 (s9.l 0)
 have hlo:=e0.size
 replace sep:=sep.none hlo;clear hlo
 refine cL (fun m a h'=>∃k:Nat,∃ad:Option Addr,∃cap:Nat,m=e5 b.length - k∧(Ext h h')∧(k≤e5 b.length)∧(Own h' (.slice dH b.length cap5) 5 b.length 1 (b.map bv))∧(Own h' (.slice ad k cap) 32 k 1 (uW dH b k))∧(Sep h.size h'.size [ad.map (·.block),dH.map (·.block)])∧(Fr a 30 [(3,.slice dH b.length cap5),(4,.slice ad k cap),(5,.int .i64 ((k*64:Nat):Int))])) (e5 b.length - 0) ⟨0,none,0,rfl,e0,(by omega),ae,af,sep,hF.to⟩ ?_
 clear hF a
 clear e0
 clear ae
 clear af
 clear sep
 rintro m a h10 ⟨k,ad,cap,rfl,e0,hk,ae,af,sep,hF⟩
 refine cS<|qP [(13,.bool (decide (((k*64:Nat):Int)<((b.length :Nat):Int))))] hF fun a hF=>cJ 13 hF (fun iR=> ?_) fun iR=> ?_
 ·have hkn:k<e5 b.length :=by unfold e5;omega
  have hdc:=ae.yJ
  refine cN<|tK<|cS<|cB 1<|qS hF<|tA 3 (k*64) 64<|t1 4 (.int .i64 ((min b.length ((k*64)+64):Nat):Int)) (.int .i64 (if (((k*64)+64:Nat):Int)<((b.length :Nat):Int) then (((k*64)+64:Nat):Int) else ((b.length :Nat):Int))) (congrArg (Value.int .i64) (by rw[Nat.min_def];split<;>split<;>omega)) ?_
  refine sT [(6,nV (min b.length ((k*64)+64)))] fun a hF=>rS hF<|tC 5 (.slice (uV dH k) ((ck b k).length) ((ck b k).length)) ((fun h=>Calm.b6 (a:=dH) (len:=b.length) (cap:=cap5) (sz:=1) (x:=(uV dH k)) (k*64) (min b.length (k*64+64)) (min b.length (k*64+64)) (ck b k).length (ck b k).length (by kernel_rfl) (.inr ⟨rfl,by omega,rfl⟩) (.inr rfl) (.inr rfl) (by omega) (by omega) (by unfold uV;rw[if_neg (by omega),Nat.mul_one]) (by rw[jj];omega) (by rw[jj];omega) h) _)<|tN 6 (.slice (some ⟨h10.size,0,none⟩) 1 1) #[.slice (uV dH k) ((ck b k).length) ((ck b k).length)] 32 fun h12 g13 m14=> ?_
  replace sep:=sep.nw e0.size m14
  replace af:=af.ext g13
  refine tP 7 (k+1) 24 (uW dH b k++[yF dH b k]) af (Row.blk (n:=1) (sz:=1) (l:=[yF dH b k]) m14 rfl) (List.all_eq_true.1 (by rfl)) (fun dg cQ h17 af g18 iT=> ?_)
  replace e0:=e0.ext g13
  have s20:=sep
  replace sep:=sep.sa g18 1 iT af e0.size;clear iT
  refine sE [(4,.slice dg (k+1) cQ)] fun a hF=>bK<|tK<|rS hF<|tA 1 (k*64) 64<|sE [(5,nV ((k*64)+64))] fun a hF=> ?_
  rw[yG] at af
  clear m14
  replace ae:=(ae.ext g13).k g18 (s20.ap 2 1)
  replace e0:=e0.grew g18 (s20.l 1)
  replace sep:=sep.sub (l':=[dg.map (·.block),dH.map (·.block)]) (.cons _ (.cons_cons _ (.cons_cons _ (.slnil))))
  rw[show k*64+64=(k+1)*64 by omega] at hF
  show ∃m',m'<_∧_
  refine⟨_,?_,(k+1),dg,cQ,rfl,e0,(by omega),ae,af,sep,hF.to⟩
  omega
 ·refine cX 0 (xT (xT (xB ?_)))
  refine tK<|qP [(2,.slice ad k cap)] hF fun a hF=>cR<|rT 2 (.slice ad k cap) hF ?_
  obtain rfl:k=e5 b.length :=by unfold e5 at hk⊢;omega
  exact⟨_,_,_,_,rfl,af,ae,sep,e0⟩
noncomputable def b97:Code:=Tryz.f97.body.getD .skip
theorem q6(h:Heap)(b:List UInt8)(va:Option Addr)(vc:Nat)(hr:Row h (.slice va b.length vc) b.length 1 (b.map bv))(hbl:b.length ≤1099511627000)(kt:bH h):Sat Tryz.prog 97 #[.slice va b.length vc] h fun v h'=>b1 h h' 39 v (nR b (e5 b.length)):=by
 have hnl:=kK b.length
 have e0:=Ext.refl h
 have dL:=kt.lt
 have sep:Sep h.size h.size []:=Sep.nil _ _
 refine ak Tryz.func97 20 fun a hF=>qP [] hF fun a hF=>qP [(3,.slice none 0 0)] hF fun a hF=>cS<|qS hF<|tG 1 (s8 _ b _ _ (hr.ext e0) hbl) ?_
 rintro _ h5 ⟨wh,Dn,pP,NI,rfl,aq,Hd,He,g⟩
 have hlo:=e0.size
 have a7:=sep
 replace e0:=e0.ext g
 replace kt:=kt.ext g
 replace sep:=sep.up g.size
 replace sep:=a7.app He g.size hlo
 have bT:Own h5 (.slice wh (e5 b.length) Dn) 32 (e5 b.length) 1 (uW pP b (e5 b.length)):=aq
 have gZ:Own h5 (.slice pP b.length NI) 5 b.length 1 (b.map bv):=Hd
 clear aq Hd He a7 hlo g
 refine sT [(7,.slice wh (e5 b.length) Dn),(8,nV (e5 b.length)),(9,.int .i64 0)] fun a hF=>cB 0 ?_
 have af:Own h5 (.slice none 0 0) 39 0 32 (hcs (nR b 0)):=Own.nil _ _ _
 have hlo:=e0.size
 replace sep:=sep.none hlo;clear hlo
 refine cL (fun m a h'=>∃k:Nat,∃ad:Option Addr,∃cap:Nat,m=e5 b.length - k∧(Ext h h')∧(bH h')∧(k≤e5 b.length)∧(Own h' (.slice ad k cap) 39 k 32 (hcs (nR b k)))∧(Own h' (.slice wh (e5 b.length) Dn) 32 (e5 b.length) 1 (uW pP b (e5 b.length)))∧(Own h' (.slice pP b.length NI) 5 b.length 1 (b.map bv))∧(Sep h.size h'.size [ad.map (·.block),wh.map (·.block),pP.map (·.block)])∧(Fr a 20 [(3,.slice ad k cap),(7,.slice wh (e5 b.length) Dn),(8,.int .i64 ((e5 b.length :Nat):Int)),(9,.int .i64 ((k:Nat):Int))])) (e5 b.length - 0) ⟨0,none,0,rfl,e0,kt,(by omega),af,bT,gZ,sep,hF.to⟩ ?_
 clear hF a
 clear e0
 clear kt
 clear af
 clear bT
 clear gZ
 clear sep
 rintro m a h6 ⟨k,ad,cap,rfl,e0,kt,hk,af,bT,gZ,sep,hF⟩
 refine qP [(10,.bool (decide (((k:Nat):Int)<((e5 b.length :Nat):Int))))] hF fun a hF=>cS<|cJ 10 hF (fun B5=> ?_) fun B5=> ?_
 ·have hkn:k<e5 b.length :=by omega
  obtain⟨ax,rfl,_⟩:=bT.a6 (by omega)
  refine cN<|tK<|cS<|cB 1<|qS hF<|tI 0 ax (e5 b.length) 1 k k<|tC 1 (.slice (uV pP k) ((ck b k).length) ((ck b k).length)) (Calm.load (T:=32) (p:=(Addr.add ax k)) (by kernel_rfl) (Loads.one (k:=1) (by kernel_rfl) (yI (i:=k) bT rfl (by omega)))) ?_
  refine sT [(5,.slice (uV pP k) ((ck b k).length) ((ck b k).length))] fun a hF=>rS hF<|tG 2 (qY _ (ck b k) (uV pP k) ((ck b k).length) (yH gZ.row hkn) (.inr fun k2 e=>Ey (b:=b) (i:=k) gZ e) kt (by rw[jj];omega)) ?_
  rintro _ h9 ⟨rfl,g8⟩
  refine tF 3 (Does.newHs (L:=[cx (ck b k)]) (t:=45) (E:=39) (dT:=32) (n:=1) (by kernel_rfl) (by kernel_rfl) (aB.cons (dm _) aB.nil) rfl (by decide) (by decide)) ?_
  rintro _ h10 ⟨rfl,hh⟩
  have g11:Ext h9 h10:=a8 hh
  have m12:h10[h9.size]? =some (.cells (hcs [cx (ck b k)]).toArray 39):=bx hh
  clear hh
  replace e0:=e0.ext g8
  have hlo:=e0.size
  replace sep:=sep.up g8.size
  have a7:=sep
  replace sep:=sep.up g11.size
  replace sep:=a7.new hlo (ag m12)
  clear a7 hlo
  replace af:=(af.ext g8).ext g11
  refine tP 4 (k+1) 32 (hcs (nR b k++[cx (ck b k)])) af (hrow1 (dm _) m12) (dB _) (fun dO dp h15 af g16 jn=> ?_) (ys:=(hcs ([cx (ck b k)]))) (hZ:=by first|rfl|exact(bk _ _).symm |simp[bk])
  replace e0:=e0.ext g11
  have lU:=sep
  replace sep:=sep.sa g16 1 jn af e0.size;clear jn
  refine sE [(3,.slice dO (k+1) dp)] fun a hF=>bK<|tK<|rS hF<|tA 0 k 1<|sE [(9,nV (k+1))] fun a hF=> ?_
  rw[qN] at af
  clear m12
  replace kt:=((kt.ext g8).ext g11).grew g16 (lU.zero 1 rfl dL)
  replace bT:=((bT.ext g8).ext g11).k g16 (lU.ap 2 1)
  replace gZ:=((gZ.ext g8).ext g11).k g16 (lU.ap 3 1)
  replace e0:=e0.grew g16 (lU.l 1)
  replace sep:=sep.sub (l':=[dO.map (·.block),(some ax).map (·.block),pP.map (·.block)]) (.cons _ (.cons_cons _ (.cons_cons _ (.cons_cons _ (.slnil)))))
  show ∃m',m'<_∧_
  refine⟨_,?_,(k+1),dO,dp,rfl,e0,kt,(by omega),af,bT,gZ,sep,hF.to⟩
  omega
 ·refine cX 0 (xT (xT (xB ?_)))
  refine tK<|qP [(2,.slice ad k cap)] hF fun a hF=>cR<|rT 2 (.slice ad k cap) hF ?_
  obtain rfl:k=e5 b.length :=by omega
  exact⟨ad,cap,by rw[iz],by rw[iz];exact af,sep.low 0 rfl,e0⟩
theorem wi(h:Heap)(b:List UInt8)(va:Option Addr)(vc:Nat)(hr:Row h (.slice va b.length vc) b.length 1 (b.map bv))(hbl:b.length ≤1099511627000)(kt:bH h)(H:List Hs)(hH:nR b (e5 b.length)=H):Sat Tryz.prog 97 #[.slice va b.length vc] h fun v h'=>∃ad cap,v= .slice ad H.length cap∧Own h' (.slice ad H.length cap) 39 H.length 32 (hcs H)∧(∀k,ad.map (fun(x:Addr)=>x.block)=some k→h.size ≤k)∧Ext h h':=by
 have:=q6 h b va vc hr hbl kt
 unfold b1 at this
 rwa [hH] at this
end Go.Proofs.YtegkejcglfgpmaaGreatDoor
end
section
namespace Go.Proofs.YtegkejcglfgpmaaGreatDoor
open Go Go.an Go.aT
noncomputable def b63:Code:=Tryz.f63.body.getD .skip
theorem wj(h:Heap)(b:List UInt8)(va:Option Addr)(vc:Nat)(hr:Row h (.slice va b.length vc) b.length 1 (b.map bv))(hbl:b.length ≤1099511627000)(kt:bH h):Sat Tryz.prog 63 #[.slice va b.length vc] h fun v h'=>v=hv (root (nR b (e5 b.length)))∧Ext h h':=by
 have e0:=Ext.refl h
 have dL:=kt.lt
 have sep:Sep h.size h.size []:=Sep.nil _ _
 obtain⟨H,hH⟩:∃H,nR b (e5 b.length)=H:=⟨_,rfl⟩
 have h32:aB H:=hH▸sU _ _
 have PA:H.length =e5 b.length :=by rw[←hH,iz]
 have hnl:=kK b.length
 refine ak Tryz.func63 6 fun a hF=>qS hF<|tN 0 (pV h.size) ((z32.map bv).toArray) 39 fun h1 g2 m3=> ?_
 replace sep:=sep.nw e0.size m3
 refine sT [(2,pV h.size)] fun a hF=>qS hF ?_
 replace e0:=e0.ext g2
 replace kt:=kt.ext g2
 refine tG 1 (wi _ b _ _ (hr.ext e0) hbl kt H hH) ?_
 rintro _ h8 ⟨dH,cap5,rfl,mT,Lc,g6⟩
 replace sep:=sep.co g6 Lc mT e0.size
 replace kt:=kt.ext g6
 refine tG 2 (iG _ H _ _ H.length (HR.of mT h32) kt (by omega)) ?_
 rintro _ h10 ⟨rfl,g9⟩
 replace m3:=(m3.x g6).x g9
 refine tF 3 (Does.store (b:=h.size) (off:=0) (vs:=(root H).map bv) (l:=z32.map bv) (bz (by kernel_rfl) (hlm (bb h32))) m3 (hfit rfl (bb h32)) (aI _)) ?_
 rintro _ h11 ⟨rfl,hh⟩
 have g12:Grew (some (h.size)) h10 h11:=bD hh
 replace m3:h11[h.size]? =some (.cells ((root H).map bv).toArray 39):=bX (off:=0) (vs:=(root H).map bv) (l:=(z32.map bv)) hh (cm rfl (bb h32)) m3
 clear hh
 refine sT [] fun a hF=>cR<|aK [.cell 2 39] [.agg ((root H).map bv).toArray] (.agg ((root H).map bv).toArray) rfl hF ⟨⟨_,rfl,Loads.hash (by kernel_rfl) (bb h32) m3⟩,trivial⟩ rfl ?_
 replace e0:=((e0.ext g6).ext g9).grew g12 (sep.l 1)
 exact⟨by rw[hH];rfl,e0⟩
end Go.Proofs.YtegkejcglfgpmaaGreatDoor
end
section
namespace Go.aT
open Go Go.an
structure An where
  c:Int
  b:List UInt8
  sx:RB
  se:Int
  sh:Bool
  sg:Bool
  i:List ByteArray
  n:Int
  y:RB
  k:Int
  p:List (List UInt8)
def ft:An:=⟨0,[],aC,0,false,false,[],0,aC,0,[]⟩
def j4(c:Int):An:={ft with c:=c}
@[reducible] def wk(A:An)(b i p:Value):Value:= .agg (bJ A.c b A.sx A.se A.sh A.sg i A.n A.y A.k p).toArray
def AnsAt(h:Heap)(v:Value)(A:An):Prop:=∃ba bc ia ic pa pc,v=wk A (.slice ba A.b.length bc) (.slice ia A.i.length ic) (.slice pa A.p.length pc)∧
  aR h (.slice ba A.b.length bc) A.b.length 1 (A.b.map bv)∧aR h (.slice ia A.i.length ic) A.i.length 1 (A.i.map Value.string)∧aR h (.slice pa A.p.length pc) A.p.length 32 (hcs A.p)∧aB A.p
section
variable {h h':Heap} {v:Value} {A:An}
theorem jo(h:Heap)(c:Int):AnsAt h (wk (j4 c) (.slice none 0 0) (.slice none 0 0) (.slice none 0 0)) (j4 c):=
  ⟨none,0,none,0,none,0,rfl,aR.nil _ _,aR.nil _ _,aR.nil _ _,aB.nil⟩
end
def AF(a b c:Option Addr)(k:Nat):Prop:=a.map (fun(x:Addr)=>x.block)=some k∨b.map (fun(x:Addr)=>x.block)=some k∨c.map (fun(x:Addr)=>x.block)=some k
theorem AF.nil{k:Nat}(e:AF none none none k):False:=by rcases e with e|e|e<;>cases e
def pQ(W:Nat→Prop)(lo:Nat)(h:Heap)(b p:Nat)(M:Md)(v:Value)(A:An):Prop:=∃ba bc ia ic pa pc,v=wk A (.slice ba A.b.length bc) (.slice ia A.i.length ic) (.slice pa A.p.length pc)∧
  Own h (.slice ba A.b.length bc) 5 A.b.length 1 (A.b.map bv)∧Own h (.slice ia A.i.length ic) 9 A.i.length 1 (A.i.map Value.string)∧Own h (.slice pa A.p.length pc) 39 A.p.length 32 (hcs A.p)∧aB A.p ∧
  (∀k,AF ba ia pa k→lo≤k)∧dN (fun k=>W k∨AF ba ia pa k) h b p M
section
variable {W:Nat→Prop} {lo:Nat} {h h' h0:Heap} {b p:Nat} {M:Md} {v:Value} {A:An}
theorem pQ.at_(a:pQ W lo h b p M v A):AnsAt h v A:=by
  obtain⟨ba,bc,ia,ic,pa,pc,e,r1,r2,r3,r4,_⟩:=a
  exact⟨ba,bc,ia,ic,pa,pc,e,aR.of r1 (by decide),aR.of r2 (by decide),aR.of r3 (by decide),r4⟩
theorem pQ.mod(a:pQ W lo h b p M v A):dN W h b p M:=by
  obtain⟨ba,bc,ia,ic,pa,pc,e,r1,r2,r3,r4,_,m⟩:=a
  exact m.less fun k hk=> .inl hk
theorem fg{n:Nat}:∀k,(none:Option Addr).map (fun(x:Addr)=>x.block)=some k→n≤k:=fun k e=>by cases e
theorem iH{L:List bY}{ck:Nat}{ea:Option Addr}{ec:Nat}{es:List Value}(md:bI W h0 b p M L ck ea ec es)(e:Ext h0 h){ba ia pa:Option Addr}{bc ic pc:Nat}(hv:v=wk A (.slice ba A.b.length bc) (.slice ia A.i.length ic) (.slice pa A.p.length pc))(o1:Own h (.slice ba A.b.length bc) 5 A.b.length 1 (A.b.map bv))(g1:∀k,ba.map (fun(x:Addr)=>x.block)=some k→h0.size ≤k)
    (o2:Own h (.slice ia A.i.length ic) 9 A.i.length 1 (A.i.map Value.string)) (g2:∀k,ia.map (fun(x:Addr)=>x.block)=some k→h0.size ≤k) (o3:Own h (.slice pa A.p.length pc) 39 A.p.length 32 (hcs A.p)) (g3:∀k,pa.map (fun(x:Addr)=>x.block)=some k→h0.size ≤k) (h32:aB A.p):
    pQ W h0.size h b p M v A:=
  have hge:∀k,AF ba ia pa k→h0.size ≤k:=fun k e=>e.elim (g1 k) (Or.rec (g2 k) (g3 k))
  ⟨ba,bc,ia,ic,pa,pc,hv,o1,o2,o3,h32,hge,_,_,_,_,_,(md.more fun k=>Or.imp id (hge k)).ext e⟩
theorem kO(m:dN W h b p M)(c:Int):pQ W lo h b p M (wk (j4 c) (.slice none 0 0) (.slice none 0 0) (.slice none 0 0)) (j4 c):=
  ⟨none,0,none,0,none,0,rfl,Own.nil _ _ _,Own.nil _ _ _,Own.nil _ _ _,aB.nil,fun _ e=>e.nil.elim,m.less fun _ e=>e.elim id fun e=>e.nil.elim⟩
theorem fT{L:List bY}{ck:Nat}{ea:Option Addr}{ec:Nat}{es:List Value}(md:bI W h0 b p M L ck ea ec es)(e:Ext h0 h)(c:Int):pQ W lo h b p M (wk (j4 c) (.slice none 0 0) (.slice none 0 0) (.slice none 0 0)) (j4 c):=kO ⟨_,_,_,_,_,md.ext e⟩ c
theorem _root_.Go.an.Own.bE{c:Nat}{cs:Array Value}{E E2:TypeId}{fr:Nat×Nat}{n sz:Nat}{xs:List Value}(o:Own h v E n sz xs)(g:Grew (some c) h h')(m:h[c]? =some (.cells cs E2 fr))(hne:E≠E2):Own h' v E n sz xs:=by
  refine o.kept g ?_
  rcases o.2 with⟨rfl,_⟩|⟨k,off,cap,l,rfl,q,_⟩
  · exact .inl rfl
  · refine .inr fun e => ?_
    simp only[bh,Option.some.injEq] at e
    subst e
    rw[q] at m;cases m;exact hne rfl
end
end Go.aT
namespace Go.Proofs.YtegkejcglfgpmaaGreatDoor
open Go Go.an Go.aT
noncomputable def dy(M:Md)(kd:Int)(s:ByteArray):An:=
  if aP s=false then j4 210 else match M.f s with
    |none=>j4 211
    | some o => if kd = 3 then { ft with sx := o.b, se := o.e, sh := o.ho, sg := o.go } else if kd = 16 then { ft with c := (c7 (cH M.E) o.b.idx).2, k := o.b.idx, p := (c7 (cH M.E) o.b.idx).1 } else
      if o.go =true then j4 213 else if kd=2 then {ft with b:=o.dt } else ft
section
variable {M:Md} {kd n:Int} {s:ByteArray} {b:List UInt8} {o:Ob}
theorem u5(h:aP s=false):dy M kd s=j4 210:=by unfold dy;rw[if_pos h]
theorem kP(h:aP s=true)(hf:M.f s=none):dy M kd s=j4 211:=by unfold dy;rw[if_neg (by rw[h];decide),hf]
theorem oZ(h:aP s=true)(hf:M.f s=some o)(k:kd=3):dy M kd s={ft with sx:=o.b,se:=o.e,sh:=o.ho,sg:=o.go }:=by unfold dy;rw[if_neg (by rw[h];decide),hf];simp only[k,if_true]
theorem mW(h:aP s=true)(hf:M.f s=some o)(k:kd=16){p:List (List UInt8)}{e:Int}(hz:c7 (cH M.E) o.b.idx =(p,e)):dy M kd s={ft with c:=e,k:=o.b.idx,p:=p}:=by unfold dy;rw[if_neg (by rw[h];decide),hf];subst k;simp[hz]
theorem o0(h:aP s=true)(hf:M.f s=some o)(k:kd≠3)(k2:kd≠16)(hg:o.go =true):dy M kd s=j4 213:=by unfold dy;rw[if_neg (by rw[h];decide),hf];simp only[k,k2,if_false,hg,if_true]
theorem mX(h:aP s=true)(hf:M.f s=some o)(k:kd=2)(hg:o.go =false):dy M kd s={ft with b:=o.dt }:=by unfold dy;rw[if_neg (by rw[h];decide),hf];subst k;simp[hg]
theorem o5(h:aP s=true)(hf:M.f s=some o)(k:kd≠3)(k2:kd≠16)(k3:kd≠2)(hg:o.go =false):dy M kd s=ft:=by unfold dy;rw[if_neg (by rw[h];decide),hf];simp[k,k2,k3,hg]
end
noncomputable def step(M:Md)(kd n:Int)(s:ByteArray)(b:List UInt8):Md×An:=
  if kd=1 then ((eG M s b).1,j4 (eG M s b).2) else if kd=4∨kd=5∨kd=6 then ((iZ M kd n s).1,j4 (iZ M kd n s).2) else if kd=2∨kd=3∨kd=16∨kd=15 then (M,dy M kd s) else
    if kd=7 then (M,{ft with i:=j0 M}) else if kd=8 then (M,{ft with i:=e6 M}) else if kd=9 then (M,{ft with n:=((M.E.length :Nat):Int),y:=qQ (root (cH M.E))}) else
    if kd=10 then (⟨M.f,M.E,M.t +min (max 0 n) (1099511627776 - M.t)⟩,ft) else if kd=11∨kd=12∨kd=13∨kd=14 then (M,ft) else (M,j4 1)
section
variable {M:Md} {kd n:Int} {s:ByteArray} {b:List UInt8}
theorem j5(k:kd=1):step M kd n s b=((eG M s b).1,j4 (eG M s b).2):=by unfold step;rw[if_pos k]
theorem fG(k:kd=4∨kd=5∨kd=6):step M kd n s b=((iZ M kd n s).1,j4 (iZ M kd n s).2):=by unfold step;rw[if_neg (by omega),if_pos k]
theorem dq(k:kd=2∨kd=3∨kd=16∨kd=15):step M kd n s b=(M,dy M kd s):=by unfold step;rw[if_neg (by omega),if_neg (by omega),if_pos k]
theorem q7(k:kd=7):step M kd n s b=(M,{ft with i:=j0 M}):=by unfold step;rw[if_neg (by omega),if_neg (by omega),if_neg (by omega),if_pos k]
theorem q8(k:kd=8):step M kd n s b=(M,{ft with i:=e6 M}):=by unfold step;rw[if_neg (by omega),if_neg (by omega),if_neg (by omega),if_neg (by omega),if_pos k]
theorem step_head(k:kd=9):step M kd n s b=(M,{ft with n:=((M.E.length :Nat):Int),y:=qQ (root (cH M.E))}):=by unfold step;rw[if_neg (by omega),if_neg (by omega),if_neg (by omega),if_neg (by omega),if_neg (by omega),if_pos k]
theorem kQ(k:kd=10):step M kd n s b=(⟨M.f,M.E,M.t +min (max 0 n) (1099511627776 - M.t)⟩,ft):=by unfold step;rw[if_neg (by omega),if_neg (by omega),if_neg (by omega),if_neg (by omega),if_neg (by omega),if_neg (by omega),if_pos k]
theorem c8(k:kd=11∨kd=12∨kd=13∨kd=14):step M kd n s b=(M,ft):=by unfold step;rw[if_neg (by omega),if_neg (by omega),if_neg (by omega),if_neg (by omega),if_neg (by omega),if_neg (by omega),if_neg (by omega),if_pos k]
theorem u6(h1:kd≠1)(h2:¬(kd=4∨kd=5∨kd=6))(h3:¬(kd=2∨kd=3∨kd=16∨kd=15))(h7:kd≠7)(h8:kd≠8)(h9:kd≠9)(h10:kd≠10)(h11:¬(kd=11∨kd=12∨kd=13∨kd=14)):step M kd n s b=(M,j4 1):=by
  unfold step;rw[if_neg h1,if_neg h2,if_neg h3,if_neg h7,if_neg h8,if_neg h9,if_neg h10,if_neg h11]
end
end Go.Proofs.YtegkejcglfgpmaaGreatDoor
end
section
namespace Go.an
open Go Go.aT
section
variable {P:Program}
def FE(P:Program)(d:Nat)(xs ys:Array Value)(f:Field)(q:Bool):Prop:=∀w:World,∃a b,(part f.type xs f.offset).run P w= .ok a w∧(part f.type ys f.offset).run P w= .ok b w∧(Op.equalIn (d+1) f.type a b).run P w= .ok q w
theorem FE.bool{d:Nat}{xs ys:Array Value}{f:Field}{a b:Bool}(hu:P.underlying f.type =some .bool)(hx:xs[f.offset]? =some (.bool a))(hy:ys[f.offset]? =some (.bool b)):FE P d xs ys f (a==b):=fun w=>
  ⟨_,_,di hu rfl hx w,di hu rfl hy w,by simp[Op.equalIn,run_underlying hu]⟩
theorem FE.int{d:Nat}{xs ys:Array Value}{f:Field}{k k':IntKind}{a b:Int}(hu:P.underlying f.type =some (.int k'))(hx:xs[f.offset]? =some (.int k a))(hy:ys[f.offset]? =some (.int k b)):FE P d xs ys f (a==b):=fun w=>
  ⟨_,_,di hu rfl hx w,di hu rfl hy w,by simp[Op.equalIn,run_underlying hu]⟩
theorem FE.bytes{d n:Nat}{xs ys:Array Value}{f:Field}{e:TypeId}{inf B9:TypeInfo}{l r:List UInt8}(hu:P.underlying f.type =some (.array n e))(he:P.underlying e=some (.int .u8))(hi:P.info? e=some inf)(hs:inf.size =1)(hi2:P.info? f.type =some B9)(hs2:B9.size =n)
    (hx:xs.extract f.offset (f.offset +n)=(l.map bv).toArray) (hy:ys.extract f.offset (f.offset +n)=(r.map bv).toArray) (hl:l.length =n) (hr:r.length =n):FE P (d+1) xs ys f (decide (l=r)):=fun w=>by
  have hp:∀zs:Array Value,(part f.type zs f.offset).run P w= .ok (.agg (zs.extract f.offset (f.offset +n))) w:=fun zs=>by
    unfold part
    simp[isAgg,run_underlying hu,sizeOf,typeInfo,program,Sem.run,hi2,hs2]
  exact⟨_,_,hp xs,hp ys,by rw[hx,hy];exact fN d hu he hi hs l r hl hr w⟩
inductive Hf(P:Program)(d:Nat)(xs ys:Array Value):List Field→List Bool→Prop
  |nil:Hf P d xs ys [] []
  |cons {f fs q qs} (h:FE P d xs ys f q) (hn:f.name ≠ "_") (t:Hf P d xs ys fs qs):Hf P d xs ys (f::fs) (q::qs)
theorem i_{t:TypeId}{fs:Array Field}{d:Nat}{xs ys:Array Value}{qs:List Bool}(ht:P.underlying t=some (.struct fs))(hs:P.stoodInHeld t=false)(hq:Hf P d xs ys fs.toList qs)(w:World):
    (Op.equalIn (d+2) t (.agg xs) (.agg ys)).run P w= .ok (qs.all id) w:=by
  have hloop:∀(l:List Field) (qs:List Bool),Hf P d xs ys l qs→(forIn l ((none:Option Bool),()) fun f __s=>(do
            if f.name ≠ "_" then do
              let a←part f.type xs f.offset
              let b←part f.type ys f.offset
              let c←Op.equalIn (d+1) f.type a b
              if (!c)=true then pure (ForInStep.done (some false,())) else pure (ForInStep.yield (none,()))
            else pure (ForInStep.yield (none,())):Sem (ForInStep (Option Bool×Unit)))).run P w= .ok (if qs.all id=true then none else some false,()) w:=by
    intro l qs h
    induction h with
    |nil=>rfl
    | @cons f fs q qs h hn t ih =>
      obtain⟨a,b,e1,e2,e3⟩:=h w
      rw[List.forIn_cons]
      simp only[hn,if_true,Sem.run_bind,e1,e2,e3,Result.andThen_ok,ne_eq,not_false_eq_true]
      cases q with
      |true=>simp only[Bool.not_true,Bool.false_eq_true,if_false,Sem.run_pure,Result.andThen_ok,List.all_cons,id,Bool.true_and];exact ih
      |false=>simp
  unfold Op.equalIn
  simp only[Sem.run_bind,run_underlying ht,Result.andThen_ok,program,Sem.run,hs,Bool.false_eq_true,if_false, ←Array.forIn_toList]
  have:=hloop fs.toList qs hq
  first|rw[this]| (erw [this])
  cases qs.all id<;>simp
def Hg (P : Program) (e : Operand → Value) (o : Oper) : Option (Bool × TypeId × Array Value × Array Value) :=
  match o.op with
  | .binOp op t x y _ => match e x, e y with
    | .agg a, .agg b => match P.eqGuardType P.depth t with
      | false => match op with
        | .eql =>some (true,t,a,b)
        | .neq =>some (false,t,a,b)
        |_=>none
      |true=>none
    |_,_=>none
  |_=>none
def Hh(P:Program)(ops:Array Oper)(base:Nat→Value)(vals:aV)(i:Nat):=(jG ops base vals i).bind (Hg P (env ops base vals i))
theorem Calm.AY{ops:Array Oper}{base:Nat→Value}{vals:aV}{i:Nat}{q r:Bool}{t:TypeId}{xs ys:Array Value}(hx:Hh P ops base vals i=some (q,t,xs,ys))(hr:∀w:World,(Op.equalIn 10000 t (.agg xs) (.agg ys)).run P w= .ok r w)(h:Heap):
    Calm P ops base vals i h (.bool (if q=true then r else !r)):=by
  refine aW hx fun o ho w hw=> ?_
  have hrun:(execOp (env ops base vals i) o).run P w= .ok (.value (.bool (if q=true then r else !r))) w:=by
    unfold Hg at ho
    cases hop:o.op with
    | binOp op t x y T' =>
      simp only[hop] at ho
      cases ha:env ops base vals i x<;>simp only[ha] at ho<;>first| (cases ho;done)|skip
      cases hb:env ops base vals i y<;>simp only[hb] at ho<;>first| (cases ho;done)|skip
      cases hg:P.eqGuardType P.depth t with
      |true=>simp[hg] at ho
      | false =>
        simp only[hg] at ho
        cases op<;>simp only[Option.some.injEq,Prod.mk.injEq] at ho<;>first| (cases ho;done)|skip
        · obtain ⟨rfl, rfl, h1, h2⟩ := ho
          subst h1;subst h2
          unfold execOp
          simp[hop,eqGuard,binOp,ha,hb,hg,Op.equal,Op.maxDepth,hr w,program,Sem.run]
        · obtain ⟨rfl, rfl, h1, h2⟩ := ho
          subst h1;subst h2
          unfold execOp
          simp[hop,eqGuard,binOp,ha,hb,hg,Op.equal,Op.maxDepth,hr w,program,Sem.run]
    |_=>simp[hop] at ho
  rw[hrun]
  exact⟨Same.refl w,rfl,hw⟩
end
end Go.an
namespace Go.aT
open Go Go.an
def ep(x:RB)(e:Int)(ho go:Bool)(x':RB)(e':Int)(ho' go':Bool):Bool:=[x.len ==x'.len,decide (hl x=hl x'),x.idx ==x'.idx,e==e',ho==ho',go==go'].all id
def oo(n:Int)(y:RB)(n':Int)(y':RB):Bool:=[n==n',decide (hl y=hl y')].all id
theorem fH(x:RB)(e:Int)(ho go:Bool):ep x e ho go x e ho go=true:=by simp[ep]
theorem iI(n:Int)(y:RB):oo n y n y=true:=by simp[oo]
end Go.aT
namespace Go.Proofs.YtegkejcglfgpmaaGreatDoor
open Go Go.an Go.aT
theorem ed(x:RB)(e:Int)(ho go:Bool)(x':RB)(e':Int)(ho' go':Bool)(w:World):(Op.equalIn 10000 41 (.agg (uX x e ho go).toArray) (.agg (uX x' e' ho' go').toArray)).run Tryz.prog w= .ok (ep x e ho go x' e' ho' go') w:=by
  refine i_ (d:=9998) Tryz.underlying41 (by kernel_rfl) ?_ w
  exact .cons (.int (k':= .i64) (by kernel_rfl) rfl rfl) (by decide)<| .cons (.bytes (d:=9997) (n:=32) (e:=5) (l:=hl x) (r:=hl x') (inf:=Tryz.t5) (B9:=Tryz.t39) (by kernel_rfl) (by kernel_rfl) (by kernel_rfl) (by kernel_rfl) (by kernel_rfl) (by kernel_rfl) (by kernel_rfl) (by kernel_rfl) rfl rfl) (by decide)<| .cons (.int (k':= .i64) (by kernel_rfl) rfl rfl) (by decide)<| .cons (.int (k':= .i64) (by kernel_rfl) rfl rfl) (by decide)<| .cons (.bool (by kernel_rfl) rfl rfl) (by decide)<| .cons (.bool (by kernel_rfl) rfl rfl) (by decide)<| .nil
theorem q9(n:Int)(y:RB)(n':Int)(y':RB)(w:World):(Op.equalIn 10000 44 (.agg (hdc n y).toArray) (.agg (hdc n' y').toArray)).run Tryz.prog w= .ok (oo n y n' y') w:=by
  refine i_ (d:=9998) Tryz.underlying44 (by kernel_rfl) ?_ w
  exact .cons (.int (k':= .i64) (by kernel_rfl) rfl rfl) (by decide)<| .cons (.bytes (d:=9997) (n:=32) (e:=5) (l:=hl y) (r:=hl y') (inf:=Tryz.t5) (B9:=Tryz.t39) (by kernel_rfl) (by kernel_rfl) (by kernel_rfl) (by kernel_rfl) (by kernel_rfl) (by kernel_rfl) (by kernel_rfl) (by kernel_rfl) rfl rfl) (by decide)<| .nil
end Go.Proofs.YtegkejcglfgpmaaGreatDoor
namespace Go.aT
open Go Go.an
/-! ### a clone -/
def pr(x:bY):ByteArray×Value:=(x.1,x.2.1)
theorem fI{W:Nat→Prop}{es:List Value}{h:Heap}{E:List (List UInt8)}(en:eo W h es E):∀u∈es,u.oneCell' =true:=fun u hu=>by
  obtain⟨i,hi,rfl⟩:=List.getElem_of_mem hu
  have hl:i<E.length :=by rw[←en.1];exact hi
  obtain⟨_,a,c,e,_⟩:=en.2 i _ (List.getElem?_eq_getElem hl)
  rw[List.getElem?_eq_getElem hi] at e
  rw[Option.some.inj e];rfl
theorem zm{N D:List bY}(h:N.map pr=D.map pr){x:bY}(hx:x∈N):∃y∈D,y.1 =x.1 ∧y.2.1 =x.2.1 :=by
  have:pr x∈D.map pr:=h▸List.mem_map.2 ⟨x,hx,rfl⟩
  obtain⟨y,hy,e⟩:=List.mem_map.1 this
  simp only[pr,Prod.mk.injEq] at e
  exact⟨y,hy,e.1,e.2⟩
theorem EP{N D:List bY}(h:N.map pr=D.map pr):N.map (fun x=>x.1)=D.map fun x=>x.1 :=by
  have e:∀l:List bY,l.map (fun x=>x.1)=(l.map pr).map Prod.fst :=fun l=>by rw[List.map_map];rfl
  rw[e,e,h]
theorem u7{N D:List bY}(h:N.map pr=D.map pr){x:bY}{v:Value}(hv:x.2.1 =v)(k:Nat):(N++[(x.1,v,k)]).map pr=(D++[x]).map pr:=by
  rw[List.map_append,List.map_append,h];subst hv;rfl
theorem zn{N D R L:List bY}{x:bY}(h:N.map pr=D.map pr)(hp:(D++[x]++R).Perm L)(nd:(L.map fun x=>x.1).Nodup):∀y∈N,y.1 ≠x.1 :=fun y hy e=>by
  obtain⟨z,hz,e1,_⟩:=zm h hy
  have hn:((D++[x]++R).map fun x=>x.1).Nodup :=(hp.map _).nodup_iff.2 nd
  rw[List.append_assoc,List.map_append,List.nodup_append] at hn
  exact hn.2.2 z.1 (List.mem_map.2 ⟨z,hz,rfl⟩) x.1 (by simp) (e1.trans e)
theorem _root_.Go.an.Born.nil :Born [] ([]:List bY).length :=⟨by simp,by simp⟩
theorem _root_.Go.an.Born.one{N:List bY}(b:Born N N.length)(s:ByteArray)(v:Value):Born (N++[(s,v,N.length)]) (N++[(s,v,N.length)]).length :=by
  rw[List.length_append,List.length_singleton];exact b.snoc s v
theorem bI.cloned{W:Nat→Prop}{h h':Heap}{b p c q:Nat}{M:Md}{L N D:List bY}{ck:Nat}{ea ca:Option Addr}{ec cc:Nat}{es:List Value}(m:bI W h b p M L ck ea ec es)(e:Ext h h')(hc:h'[c]? =some (.cells #[.map (some q), .slice ca M.E.length cc, .int .i64 M.t] 83))(hq:h'[q]? =some (.map (ents N) N.length))
    (hN:N.map pr=D.map pr) (hP:D.Perm L) (bo:Born N N.length) (own:Own h' (.slice ca M.E.length cc) 32 M.E.length 1 es) (kc:h.size ≤c) (kq:h.size ≤q) (hW:∀k,W k→k<h.size) (hge:∀k,ca.map (fun(x:Addr)=>x.block)=some k→h.size ≤k):dN W h' c q M:=
  have hl:N.length =L.length :=by have:=congrArg List.length hN;simp at this;rw[this,hP.length_eq]
  have kb:=m.kb
  have hb:=ag m.hm
  ⟨N,N.length,ca,cc,es,
  { hm := hc
    hp:=hq
    bo:=bo
    nd:=by rw[EP hN];exact(hP.map _).nodup_iff.2 m.nd
    ob:=fun x hx=>by
      obtain⟨y,hy,e1,e2⟩:=zm hN hx
      obtain⟨o,h1,h2⟩:=m.ob y (hP.mem_iff.1 hy)
      rw[e1] at h1 h2;rw[e2] at h2
      exact⟨o,h1,h2.ext e⟩
    al:=fun s o hs=>by
      obtain⟨y,hy,e1⟩:=m.al s o hs
      have:pr y∈N.map pr:=hN▸List.mem_map.2 ⟨y,hP.mem_iff.2 hy,rfl⟩
      obtain⟨x,hx,e2⟩:=List.mem_map.1 this
      simp only[pr,Prod.mk.injEq] at e2
      exact⟨x,hx,e2.1.trans e1⟩
    er:=cj.new own (by decide) hW hge
    en:=m.en.ext e
    ln:=by rw[hl,m.ln]
    t0:=m.t0
    t1:=m.t1
    kb:=by omega
    kp:=by omega}⟩
end Go.aT
namespace Go.aT
open Go Go.an
theorem bI.at{W:Nat→Prop}{h:Heap}{b p:Nat}{M:Md}{L:List bY}{ck:Nat}{ea:Option Addr}{ec:Nat}{es:List Value}(m:bI W h b p M L ck ea ec es){s:ByteArray}{o:Ob}(hf:M.f s=some o):
    ∃x∈L,x.1 =s∧∃ca cc ba bc,x.2.1 =GC o (.slice ca 0 cc) (.slice ba o.dt.length bc)∧aR h (.slice ba o.dt.length bc) o.dt.length 1 (o.dt.map bv):=by
  rcases m.find s with⟨h1,_⟩|⟨A,x,B,o',rfl,h2,h3,_,_,ca,cc,ba,bc,h4,_,h5⟩
  · rw[hf] at h1;cases h1
  · rw [hf] at h3; cases h3
    exact⟨x,by simp,h2,ca,cc,ba,bc,h4,h5.1⟩
end Go.aT
end
section
namespace Go.aT
open Go Go.an
/-! ### the judge -/
def bO(A B:An):Int:=
  if A.c ≠B.c then 1 else if A.b ≠B.b then 2 else if ep A.sx A.se A.sh A.sg B.sx B.se B.sh B.sg =false then 3 else if A.i ≠B.i then 4 else if oo A.n A.y B.n B.y =false then 5 else if A.k ≠B.k ∨A.p ≠B.p then 6 else 0
section
variable {A B:An}
theorem Dp(h:A.c ≠B.c):bO A B=1:=by unfold bO;rw[if_pos h]
theorem rule2(h1:A.c =B.c)(h:A.b ≠B.b):bO A B=2:=by unfold bO;rw[if_neg (fun k=>k h1),if_pos h]
theorem Hi(h1:A.c =B.c)(h2:A.b =B.b)(h:ep A.sx A.se A.sh A.sg B.sx B.se B.sh B.sg =false):bO A B=3:=by unfold bO;rw[if_neg (fun k=>k h1),if_neg (fun k=>k h2),if_pos h]
theorem Hj(h1:A.c =B.c)(h2:A.b =B.b)(h3:ep A.sx A.se A.sh A.sg B.sx B.se B.sh B.sg =true)(h:A.i ≠B.i):bO A B=4:=by unfold bO;rw[if_neg (fun k=>k h1),if_neg (fun k=>k h2),if_neg (by rw[h3];decide),if_pos h]
theorem Hk(h1:A.c =B.c)(h2:A.b =B.b)(h3:ep A.sx A.se A.sh A.sg B.sx B.se B.sh B.sg =true)(h4:A.i =B.i)(h:oo A.n A.y B.n B.y =false):bO A B=5:=by unfold bO;rw[if_neg (fun k=>k h1),if_neg (fun k=>k h2),if_neg (by rw[h3];decide),if_neg (fun k=>k h4),if_pos h]
theorem Dq(h1:A.c =B.c)(h2:A.b =B.b)(h3:ep A.sx A.se A.sh A.sg B.sx B.se B.sh B.sg =true)(h4:A.i =B.i)(h5:oo A.n A.y B.n B.y =true)(h:A.k ≠B.k ∨A.p ≠B.p):bO A B=6:=by
  unfold bO;rw[if_neg (fun k=>k h1),if_neg (fun k=>k h2),if_neg (by rw[h3];decide),if_neg (fun k=>k h4),if_neg (by rw[h5];decide),if_pos h]
theorem u9(h1:A.c =B.c)(h2:A.b =B.b)(h3:ep A.sx A.se A.sh A.sg B.sx B.se B.sh B.sg =true)(h4:A.i =B.i)(h5:oo A.n A.y B.n B.y =true)(h6:A.k =B.k)(h7:A.p =B.p):bO A B=0:=by
  unfold bO;rw[if_neg (fun k=>k h1),if_neg (fun k=>k h2),if_neg (by rw[h3];decide),if_neg (fun k=>k h4),if_neg (by rw[h5];decide),if_neg (by rintro(k|k);exact k h6;exact k h7)]
end
/-! strings, lists -/
theorem eH(s t:ByteArray):(s.toList ==t.toList)=decide (s=t):=by
  by_cases e:s=t
  · subst e;simp
  · rw [decide_eq_false e]
    cases h:(s.toList ==t.toList) with
    |false=>rfl
    | true =>
      exfalso
      have h1:=eq_of_beq h
      rw[Lib.toList_data,Lib.toList_data] at h1
      apply e
      cases s;cases t
      simp only[ByteArray.mk.injEq]
      rename_i a b
      rw[←Array.toArray_toList (xs:=a), ←Array.toArray_toList (xs:=b)]
      exact congrArg List.toArray h1
theorem mk_inj{a b:List UInt8}:(ByteArray.mk a.toArray =ByteArray.mk b.toArray)↔a=b:=by
  constructor
  · intro h;simpa using h
  · intro h;rw[h]
theorem zo(a b:List UInt8):((ByteArray.mk a.toArray).toList ==(ByteArray.mk b.toArray).toList)=decide (a=b):=by
  rw[eH];exact decide_eq_decide.2 mk_inj
theorem q_{α:Type}[Inhabited α]{l r:List α}{k:Nat}{d:α}(h:l.take k=r.take k)(hl:k<l.length)(hr:k<r.length)(e:l.getD k d=r.getD k d):l.take (k+1)=r.take (k+1):=by
  rw[List.take_succ_eq_append_getElem hl,List.take_succ_eq_append_getElem hr,h]
  have:l[k]=r[k]:=by simpa[List.getD,hl,hr] using e
  rw[this]
theorem mZ{α:Type}{l r:List α}{k:Nat}{d:α}(e:l.getD k d≠r.getD k d):l≠r:=fun h=>e (by rw[h])
/-! ### candidates -/
structure CA(h:Heap)(bs:List (Nat×Nat))(Ms:List Md):Prop where
  len:bs.length =Ms.length
  at_:∀(i:Nat) (x:Nat×Nat) (M:Md),bs[i]? =some x→Ms[i]? =some M→Mod h x.1 x.2 M
  nb:(bs.map fun x=>x.1).Nodup
  np:(bs.map fun x=>x.2).Nodup
theorem Dr{α β:Type}{l:List α}{f:α→β}(h:(l.map f).Nodup){i j:Nat}{x y:α}(hi:l[i]? =some x)(hj:l[j]? =some y)(hne:i≠j):f x≠f y:=fun e=>by
  have hi':(l.map f)[i]? =some (f x):=by rw[List.getElem?_map,hi];rfl
  have hj':(l.map f)[j]? =some (f x):=by rw[List.getElem?_map,hj,e];rfl
  obtain⟨h1,h2⟩:=List.getElem?_eq_some_iff.1 hi'
  obtain⟨h3,h4⟩:=List.getElem?_eq_some_iff.1 hj'
  have hp:=List.pairwise_iff_getElem.1 h
  rcases Nat.lt_or_gt_of_ne hne with k|k
  · exact hp i j h1 h3 k (h2.trans h4.symm)
  · exact hp j i h3 h1 k (h4.trans h2.symm)
section
variable {h h':Heap} {bs:List (Nat×Nat)} {Ms:List Md}
theorem Mod.kb{b p:Nat}{M:Md}(m:Mod h b p M):b<h.size ∧p<h.size :=by obtain⟨_,_,_,_,_,m⟩:=m;exact⟨ag m.hm,ag m.hp⟩
theorem CA.ext(c:CA h bs Ms)(g:Ext h h'):CA h' bs Ms:=⟨c.len,fun i x M h1 h2=>(c.at_ i x M h1 h2).ext g,c.nb,c.np⟩
theorem CA.fr{F:Nat→Prop}(c:CA h bs Ms)(g:Gr F h h')(hF:∀k,F k→bf h k)(h1:∀x∈bs,¬F x.1 ∧¬F x.2):CA h' bs Ms:=
  ⟨c.len,fun i x M e1 e2=>(c.at_ i x M e1 e2).fr g hF (h1 x (List.mem_of_getElem? e1)).1 (h1 x (List.mem_of_getElem? e1)).2,c.nb,c.np⟩
theorem CA.set{i:Nat}{x:Nat×Nat}{M M':Md}(c:CA h bs Ms)(hx:bs[i]? =some x)(hM:Ms[i]? =some M)(g:MG x.1 x.2 h h')(m':Mod h' x.1 x.2 M'):CA h' bs (Ms.set i M'):=by
  refine⟨by rw[List.length_set];exact c.len,fun j y N h1 h2=> ?_,c.nb,c.np⟩
  by_cases e:j=i
  · subst e
    rw[hx] at h1;cases h1
    have hl:=(List.getElem?_eq_some_iff.1 hM).1
    rw[List.getElem?_set_self hl] at h2;cases h2
    exact m'
  · rw [List.getElem?_set_ne (Ne.symm e)] at h2
    exact(c.at_ j y N h1 h2).other (c.at_ i x M hx hM) g (Dr c.nb h1 hx e) (Dr c.np h1 hx e)
end
theorem B_{α:Type}(f:α→α){l:List α}{i:Nat}{x:α}(h:l[i]? =some x):((l.take i).map f++l.drop i).set i (f x)=(l.take (i+1)).map f++l.drop (i+1):=by
  obtain⟨hi,rfl⟩:=List.getElem?_eq_some_iff.1 h
  have hl:((l.take i).map f).length =i:=by rw[List.length_map,List.length_take];omega
  rw[List.set_append_right _ _ (by omega),hl,Nat.sub_self,List.drop_eq_getElem_cons hi,List.set_cons_zero,List.take_succ_eq_append_getElem hi,List.map_append]
  simp
theorem zp{α:Type}(f:α→α){l:List α}{i:Nat}{x:α}(h:l[i]? =some x):((l.take i).map f++l.drop i)[i]? =some x:=by
  obtain⟨hi,rfl⟩:=List.getElem?_eq_some_iff.1 h
  have hl:((l.take i).map f).length =i:=by rw[List.length_map,List.length_take];omega
  rw[List.getElem?_append_right (by omega),hl,Nat.sub_self,List.getElem?_drop,Nat.add_zero];exact h
@[reducible] def m_(x:Nat×Nat):Value:= .pointer (some ⟨x.1,0,none⟩)
structure Jd where
  c:List Md
  off:Bool
  Ds:Bool
  NJ:Bool
  gave:Bool
def nf(h:Heap)(v:Value)(n:Nat)(xs:List Value):Prop:=Row h v n 1 xs∧(n=0∨∃k cs fr,bh v=some k∧h[k]? =some (.cells cs 55 fr))
def ER(h:Heap)(k:Nat):Prop:=∀cs fr,h[k]? ≠some (.cells cs 55 fr)
theorem nf.fr{h h':Heap}{v:Value}{n:Nat}{xs:List Value}{F:Nat→Prop}(r:nf h v n xs)(g:Gr F h h')(hF:∀k,F k→ER h k):nf h' v n xs:=by
  rcases r.2 with h0|⟨k,ds,fr',e,m⟩
  · exact⟨r.1.zero h0, .inl h0⟩
  · have nk : ¬ F k := fun hk => hF k hk _ _ m
    have m':h'[k]? =some (.cells ds 55 fr'):=by rw[g.2 k (ag m) nk];exact m
    refine⟨⟨r.1.1,r.1.2.imp id ?_⟩, .inr ⟨k,ds,fr',e,m'⟩⟩
    rintro⟨a,cap,rfl,hc,hx⟩
    simp only[bh,Option.some.injEq] at e
    subst e
    refine⟨a,cap,rfl,hc,fun j u hu=> ?_⟩
    rw[dY (h:=h) (h':=h') (p:=a.add j) (by rw[add_block,m',m])]
    exact hx j u hu
theorem nf.of{h:Heap}{v:Value}{n:Nat}{xs:List Value}(o:Own h v 55 n 1 xs):nf h v n xs:=by
  refine⟨o.row, ?_⟩
  rcases o.2 with⟨rfl,h0⟩|⟨g,off,cap,l,rfl,m,_⟩
  · exact .inl h0
  · exact .inr ⟨g,l,(0,0),rfl,m⟩
theorem nf.ext{h h':Heap}{v:Value}{n:Nat}{xs:List Value}(r:nf h v n xs)(g:Ext h h'):nf h' v n xs:=r.fr (F:=fun _=>False) ⟨g.1,fun k hk _=>g.2 k hk (by simp)⟩ (fun _ h=>h.elim)
structure JA(h:Heap)(jb:Nat)(bs:List (Nat×Nat))(J:Jd)(ca:Option Addr)(cc:Nat):Prop where
  hj:h[jb]? =some (.cells #[.slice ca bs.length cc, .bool J.off, .bool J.Ds, .bool J.NJ, .bool J.gave] 77)
  row:nf h (.slice ca bs.length cc) bs.length (bs.map m_)
  cs:CA h bs J.c
def JF(jb:Nat)(bs:List (Nat×Nat))(k:Nat):Prop:=k=jb∨∃x∈bs,k=x.1 ∨k=x.2
def hdF(f:Md→Md×Int):List Md→Int
  |[]=>0
  |M::_=>(f M).2
def cf(J:Jd)(f:Md→Md×Int):Jd×Int:=
  if (J.c.map f).filter (fun y=>decide (y.2 =0))=[] then ({J with c:=J.c.map fun M=>(f M).1 },hdF f J.c)
  else ({J with c:=((J.c.map f).filter fun y=>decide (y.2 =0)).map fun y=>y.1 },0)
def cK(f:Md→Md×Int)(bs:List (Nat×Nat))(Ms:List Md)(i:Nat):List (Nat×Nat):=(((bs.zip Ms).take i).filter fun z=>decide ((f z.2).2 =0)).map fun z=>z.1
section
variable {f:Md→Md×Int} {bs:List (Nat×Nat)} {Ms:List Md} {i:Nat} {x:Nat×Nat} {M:Md}
theorem zr(hx:bs[i]? =some x)(hM:Ms[i]? =some M):(bs.zip Ms)[i]? =some (x,M):=by
  rw[List.getElem?_zip_eq_some];exact⟨hx,hM⟩
theorem zt(hx:bs[i]? =some x)(hM:Ms[i]? =some M)(h:(f M).2 =0):cK f bs Ms (i+1)=cK f bs Ms i++[x]:=by
  unfold cK;rw[List.take_add_one,zr hx hM,List.filter_append,List.map_append];simp[h]
theorem Ca(hx:bs[i]? =some x)(hM:Ms[i]? =some M)(h:(f M).2 ≠0):cK f bs Ms (i+1)=cK f bs Ms i:=by
  unfold cK;rw[List.take_add_one,zr hx hM,List.filter_append,List.map_append];simp[h]
theorem Cb:(cK f bs Ms i).length ≤i:=by
  unfold cK;rw[List.length_map];exact Nat.le_trans (List.length_filter_le _ _) (by rw[List.length_take];omega)
theorem re:∀y∈cK f bs Ms i,y∈bs:=fun y hy=>by
  unfold cK at hy
  obtain⟨z,hz,rfl⟩:=List.mem_map.1 hy
  exact(List.of_mem_zip (List.mem_of_mem_take (List.mem_filter.1 hz).1)).1
theorem lV(hl:bs.length =Ms.length):(((bs.zip Ms).filter fun z=>decide ((f z.2).2 =0)).map fun z=>(f z.2).1)=((Ms.map f).filter fun y=>decide (y.2 =0)).map fun y=>y.1 :=by
  have e:Ms=(bs.zip Ms).map Prod.snd :=(List.map_snd_zip (by omega)).symm
  conv=>rhs;rw[e]
  rw[List.map_map,List.filter_map,List.map_map]
  rfl
theorem CA.fit{h:Heap}(c:CA h bs (Ms.map fun M=>(f M).1))(hl:bs.length =Ms.length):CA h (cK f bs Ms bs.length) (((Ms.map f).filter fun y=>decide (y.2 =0)).map fun y=>y.1):=by
  have hz:(bs.zip Ms).take bs.length =bs.zip Ms:=List.take_of_length_le (by rw[List.length_zip];omega)
  have hsub:∀g:Nat×Nat→Nat,((cK f bs Ms bs.length).map g).Sublist (bs.map g):=fun g=>by
    unfold cK;rw[hz]
    refine List.Sublist.map _ ?_
    have:=(List.filter_sublist (p:=fun z:(Nat×Nat)×Md=>decide ((f z.2).2 =0)) (l:=bs.zip Ms)).map Prod.fst
    rwa [List.map_fst_zip (by omega)] at this
  refine⟨?_,fun i x M h1 h2=> ?_,List.Nodup.sublist (hsub _) c.nb,List.Nodup.sublist (hsub _) c.np⟩
  · rw[←lV hl];unfold cK;rw[hz,List.length_map,List.length_map]
  · rw [← lV hl] at h2
    unfold cK at h1
    rw[hz] at h1
    rw[List.getElem?_map] at h1 h2
    cases hq:((bs.zip Ms).filter fun z=>decide ((f z.2).2 =0))[i]? with
    |none=>rw[hq] at h1;cases h1
    | some z =>
      rw[hq] at h1 h2
      simp only[Option.map_some,Option.some.injEq] at h1 h2
      subst h1;subst h2
      obtain⟨j,hj⟩:=List.getElem?_of_mem (List.mem_filter.1 (List.mem_of_getElem? hq)).1
      rw[List.getElem?_zip_eq_some] at hj
      exact c.at_ j z.1 (f z.2).1 hj.1 (by rw[List.getElem?_map,hj.2];rfl)
theorem Cc(hl:bs.length =Ms.length)(h:(cK f bs Ms bs.length).length =0):(Ms.map f).filter (fun y=>decide (y.2 =0))=[]:=by
  have e:=List.eq_nil_of_length_eq_zero h
  have hz:(bs.zip Ms).take bs.length =bs.zip Ms:=List.take_of_length_le (by rw[List.length_zip];omega)
  unfold cK at e
  rw[hz,List.map_eq_nil_iff] at e
  have:=lV (f:=f) hl
  rw[e] at this
  exact List.map_eq_nil_iff.1 this.symm
theorem ES(hl:bs.length =Ms.length)(h:(cK f bs Ms bs.length).length ≠0):(Ms.map f).filter (fun y=>decide (y.2 =0))≠[]:=fun e=>by
  apply h
  have hz:(bs.zip Ms).take bs.length =bs.zip Ms:=List.take_of_length_le (by rw[List.length_zip];omega)
  have:=lV (f:=f) hl
  rw[e,List.map_nil,List.map_eq_nil_iff] at this
  unfold cK;rw[hz,this];rfl
end
def ee(kd:Int):Bool×Bool:=if kd=1∨kd=4∨kd=5∨kd=6 then (true,true) else if kd=2∨kd=3∨kd=7∨kd=8∨kd=9∨kd=11∨kd=15∨kd=16 then (true,false) else (false,false)
theorem iJ{kd:Int}(h:kd=1∨kd=4∨kd=5∨kd=6):ee kd=(true,true):=by unfold ee;rw[if_pos h]
theorem da{kd:Int}(h:¬(kd=1∨kd=4∨kd=5∨kd=6))(k:kd=2∨kd=3∨kd=7∨kd=8∨kd=9∨kd=11∨kd=15∨kd=16):ee kd=(true,false):=by unfold ee;rw[if_neg h,if_pos k]
theorem pR{kd:Int}(h:¬(kd=1∨kd=4∨kd=5∨kd=6))(k:¬(kd=2∨kd=3∨kd=7∨kd=8∨kd=9∨kd=11∨kd=15∨kd=16)):ee kd=(false,false):=by unfold ee;rw[if_neg h,if_neg k]
theorem aR.AZ{h h':Heap}{b p:Nat}{M:Md}{v:Value}{n sz:Nat}{xs:List Value}(r:aR h v n sz xs)(g:MG b p h h')(m:Mod h b p M):aR h' v n sz xs:=by
  obtain⟨_,_,_,_,_,m⟩:=m;exact r.mg g m.hm m.hp
end Go.aT
namespace Go.aT
open Go Go.an
theorem Gr.Dt{F G:Nat→Prop}{a b c:Heap}(k:Gr F a b)(g:Gr G b c)(hG:∀i,G i→F i∨a.size ≤i):Gr F a c:=
  ⟨Nat.le_trans k.1 g.1,fun i hi hn=>(g.2 i (Nat.lt_of_lt_of_le hi k.1) (fun hg=>by rcases hG i hg with h|h;exact hn h;omega)).trans (k.2 i hi hn)⟩
theorem Gr.ct{F:Nat→Prop}{a b c:Heap}{o:Option Nat}(k:Gr F a b)(g:Grew o b c)(ho:∀i,o=some i→F i∨a.size ≤i):Gr F a c:=
  ⟨Nat.le_trans k.1 g.1,fun i hi hn=>(g.2 i (Nat.lt_of_lt_of_le hi k.1) (fun e=>by rcases ho i e.symm with h|h;exact hn h;omega)).trans (k.2 i hi hn)⟩
theorem Gr.start(F:Nat→Prop)(h:Heap):Gr F h h:=⟨Nat.le_refl _,fun _ _ _=>rfl⟩
theorem Mod.k1{h:Heap}{b p:Nat}{M:Md}(m:Mod h b p M):0<b∧0<p:=by obtain⟨_,_,_,_,_,m⟩:=m;exact⟨m.kb,m.kp⟩
theorem Mod.FY{h:Heap}{b p j:Nat}{M:Md}{cs:Array Value}{E:TypeId}{fr:Nat×Nat}(m:Mod h b p M)(hj:h[j]? =some (.cells cs E fr))(hE:E≠83):j≠b∧j≠p:=by
  obtain⟨_,_,_,_,_,m⟩:=m
  refine⟨?_, ?_⟩
  · rintro rfl;rw[m.hm] at hj;cases hj;exact hE rfl
  · rintro rfl;rw[m.hp] at hj;cases hj
def s_(f:Md→Md×Int)(Ms:List Md)(k:Nat):Int:=if k=0 then 0 else hdF f Ms
theorem rf{f:Md→Md×Int}{Ms:List Md}{k:Nat}{M:Md}(hk:k=0)(hM:Ms[k]? =some M):s_ f Ms (k+1)=(f M).2 :=by
  subst hk
  cases Ms with
  |nil=>simp at hM
  |cons N L=>simp at hM;subst hM;rfl
theorem rh(f:Md→Md×Int)(Ms:List Md){k:Nat}(hk:k≠0):s_ f Ms (k+1)=s_ f Ms k:=by
  obtain⟨j,rfl⟩:∃j,k=j+1:=⟨k - 1,by omega⟩
  rfl
theorem Cd{f:Md→Md×Int}{Ms:List Md}{k:Nat}(hk:k=Ms.length):s_ f Ms k=hdF f Ms:=by
  subst hk;cases Ms<;>rfl
theorem u_{α:Type}(f:α→α)(l:List α){k:Nat}(hk:k=l.length):(l.take k).map f++l.drop k=l.map f:=by subst hk;simp
theorem Ce{J:Jd}{f:Md→Md×Int}(h:(J.c.map f).filter (fun y=>decide (y.2 =0))=[]):cf J f=({J with c:=J.c.map fun M=>(f M).1 },hdF f J.c):=by unfold cf;rw[if_pos h]
theorem zu{J:Jd}{f:Md→Md×Int}(h:(J.c.map f).filter (fun y=>decide (y.2 =0))≠[]):cf J f=({J with c:=((J.c.map f).filter fun y=>decide (y.2 =0)).map fun y=>y.1 },0):=by unfold cf;rw[if_neg h]
end Go.aT
namespace Go.Proofs.YtegkejcglfgpmaaGreatDoor
open Go Go.an Go.aT
theorem zv{M:Md}{K K':List Rec}(E:dx M K)(F:dx M K'):K.length =K'.length :=by
  have hp:(K.map fun r=>r.b.id).Perm (K'.map fun r=>r.b.id):=(List.perm_ext_iff_of_nodup E.nd F.nd).2 fun s=>by
    simp only[List.mem_map]
    constructor
    · rintro⟨r,hr,rfl⟩;obtain⟨o,h1,_⟩:=E.at_ r hr;obtain⟨r',k1,k2⟩:=F.al _ o h1;exact⟨r',k1,k2⟩
    · rintro⟨r,hr,rfl⟩;obtain⟨o,h1,_⟩:=F.at_ r hr;obtain⟨r',k1,k2⟩:=E.al _ o h1;exact⟨r',k1,k2⟩
  simpa using hp.length_eq
theorem Cf{h:Heap}{b p:Nat}{M:Md}(m:Mod h b p M):(j0 M).length ≤M.E.length ∧(e6 M).length ≤M.E.length :=by
  obtain⟨L,ck,ea,ec,es,md⟩:=m
  obtain⟨g,hg⟩:=md.choose
  have hen:=md.enum hg (List.Perm.refl L)
  have hK:(L.map (aN g)).length =M.E.length :=by rw[List.length_map,md.ln]
  constructor
  · rw[lS hen];unfold fq;rw[List.length_mergeSort, ←hK];exact j1 _
  · unfold e6
    split
    · rename_i hh
      obtain⟨K,S,E',h',s',e⟩:=Classical.choose_spec hh
      rw[e, ←hK,zv hen E']
      unfold ids;rw[List.length_map,h'.length_eq];exact List.length_filter_le _ _
    · simp
theorem g_{h:Heap}{b p:Nat}{M:Md}(m:Mod h b p M)(kd n:Int)(s:ByteArray)(l:List UInt8):(step M kd n s l).2.i.length ≤M.E.length ∧(step M kd n s l).2.p.length ≤M.E.length :=by
  have hb:=Cf m
  have z0:(0:Nat)≤M.E.length :=Nat.zero_le _
  unfold step
  split
  · exact⟨z0,z0⟩
  split
  · exact⟨z0,z0⟩
  split
  · show (dy M kd s).i.length ≤ _ ∧ (dy M kd s).p.length ≤ _
    unfold dy
    split
    · exact⟨z0,z0⟩
    split
    · exact⟨z0,z0⟩
    split
    · exact⟨z0,z0⟩
    split
    · refine ⟨z0, ?_⟩
      have:=vW (cH M.E) (by assumption:Ob).b.idx
      exact Nat.le_trans this (by unfold cH;rw[List.length_map];exact Nat.le_refl _)
    split
    · exact⟨z0,z0⟩
    split<;>exact⟨z0,z0⟩
  split
  · exact⟨hb.1,z0⟩
  split
  · exact⟨hb.2,z0⟩
  split
  · exact⟨z0,z0⟩
  split
  · exact⟨z0,z0⟩
  split<;>exact⟨z0,z0⟩
theorem fl(M:Md)(kd n:Int)(s:ByteArray)(l:List UInt8):(step M kd n s l).1.E.length ≤M.E.length +1:=by
  have h1:(eG M s l).1.E.length ≤M.E.length +1:=by
    unfold eG
    split
    · exact Nat.le_succ _
    split
    · exact Nat.le_succ _
    split
    · exact Nat.le_succ _
    · simp
  have h2:(iZ M kd n s).1.E.length ≤M.E.length +1:=by
    unfold iZ
    split
    · exact Nat.le_succ _
    split
    · exact Nat.le_succ _
    split
    · exact Nat.le_succ _
    split<;>exact Nat.le_succ _
  unfold step
  split
  · exact h1
  split
  · exact h2
  split
  · show M.E.length ≤_;omega
  split
  · show M.E.length ≤_;omega
  split
  · show M.E.length ≤_;omega
  split
  · show M.E.length ≤_;omega
  split
  · show M.E.length ≤_;omega
  split<;>(show M.E.length ≤_;omega)
noncomputable def bQ(kd n:Int)(s:ByteArray)(l:List UInt8)(X:An)(M:Md):Md×Int:=((step M kd n s l).1,bO (step M kd n s l).2 X)
end Go.Proofs.YtegkejcglfgpmaaGreatDoor
namespace Go.aT
open Go Go.an
theorem CA.Jy{h:Heap}{bs:List (Nat×Nat)}{Ms:List Md}{j:Nat}{cs:Array Value}{E:TypeId}{fr:Nat×Nat}(c:CA h bs Ms)(hj:h[j]? =some (.cells cs E fr))(hE:E≠83):∀x∈bs,j≠x.1 ∧j≠x.2 :=fun x hx=>by
  obtain⟨i,hi⟩:=List.getElem?_of_mem hx
  have hl:=(List.getElem?_eq_some_iff.1 hi).1
  rw[c.len] at hl
  exact(c.at_ i x _ hi (List.getElem?_eq_getElem hl)).FY hj hE
theorem CA.ET{h:Heap}{bs:List (Nat×Nat)}{Ms:List Md}{j:Nat}{cs:Array Value}{E:TypeId}{fr:Nat×Nat}(c:CA h bs Ms)(hj:h[j]? =some (.cells cs E fr))(hE:qO E=false)(hP:E≠55):∀k,JF j bs k→bf h k∧ER h k:=fun k hk=>by
  rcases hk with rfl|⟨x,hx,e⟩
  · exact⟨bf.cells hj hE,fun cs fr e=>by rw[hj] at e;cases e;exact hP rfl⟩
  · obtain ⟨i, hi⟩ := List.getElem?_of_mem hx
    have hl:=(List.getElem?_eq_some_iff.1 hi).1
    rw[c.len] at hl
    obtain⟨_,_,_,_,_,m⟩:=c.at_ i x _ hi (List.getElem?_eq_getElem hl)
    rcases e with rfl|rfl
    · exact⟨bf.cells m.hm (by decide),fun cs fr e=>by rw[m.hm] at e;cases e⟩
    · exact⟨bf.map m.hp,fun cs fr e=>by rw[m.hp] at e;cases e⟩
theorem CA.Cg{h h':Heap}{bs:List (Nat×Nat)}{Ms:List Md}{o:Option Nat}{v:Value}{E:TypeId}{n sz:Nat}{xs:List Value}(c:CA h bs Ms)(g:Grew o h h')(w:Own h v E n sz xs)(ho:bh v=o)(hE:qO E=false)(hM:E≠83):CA h' bs Ms:=by
  subst ho
  rcases w.2 with⟨rfl,_⟩|⟨k,off,cap,l,rfl,m,_⟩
  · exact c.ext g
  · refine c.fr (F := fun i => i = k) ⟨g.1, fun i hi hn => g.2 i hi (fun e => hn (Option.some.inj e))⟩ (by rintro i rfl; exact bf.cells m hE) fun x hx => ?_
    have:=c.Jy m hM x hx
    exact⟨fun e=>this.1 e.symm,fun e=>this.2 e.symm⟩
end Go.aT
namespace Go.aT
open Go Go.an
theorem Mod.EU{h h':Heap}{b p:Nat}{M:Md}{o:Option Nat}{v:Value}{E:TypeId}{n sz:Nat}{xs:List Value}(m:Mod h b p M)(g:Grew o h h')(w:Own h v E n sz xs)(ho:bh v=o)(hE:qO E=false)(hM:E≠83):Mod h' b p M:=by
  subst ho
  rcases w.2 with⟨rfl,_⟩|⟨k,off,cap,l,rfl,q,_⟩
  · exact m.ext g
  · have := m.FY q hM
    exact m.fr (F:=fun i=>i=k) ⟨g.1,fun i hi hn=>g.2 i hi (fun e=>hn (Option.some.inj e))⟩ (by rintro i rfl;exact bf.cells q hE) (fun e=>this.1 e.symm) (fun e=>this.2 e.symm)
theorem CA.two{h:Heap}{x y:Nat×Nat}{M N:Md}(m:Mod h x.1 x.2 M)(n:Mod h y.1 y.2 N)(h1:x.1 ≠y.1)(h2:x.2 ≠y.2):CA h [x,y] [M,N]:=by
  refine⟨rfl,fun i z K e1 e2=> ?_,by simp[h1],by simp[h2]⟩
  match i,e1,e2 with
  |0,e1,e2=>cases e1;cases e2;exact m
  |1,e1,e2=>cases e1;cases e2;exact n
  |_+2,e1,_=>simp at e1
theorem CA.one{h:Heap}{x:Nat×Nat}{M:Md}(m:Mod h x.1 x.2 M):CA h [x] [M]:=by
  refine⟨rfl,fun i z K e1 e2=> ?_,by simp,by simp⟩
  match i,e1,e2 with
  |0,e1,e2=>cases e1;cases e2;exact m
  |_+1,e1,_=>simp at e1
theorem CA.ta{h:Heap}{x:Nat×Nat}{M:Md}(c:CA h [x] [M]):Mod h x.1 x.2 M:=c.at_ 0 x M rfl rfl
theorem CA.nil(h:Heap):CA h [] []:=⟨rfl,fun i x M e _=>by simp at e,by simp,by simp⟩
theorem Mod.EV{h:Heap}{b p:Nat}{M:Md}{ad:Option Addr}{n cap:Nat}{E:TypeId}{m sz:Nat}{xs:List Value}(m':Mod h b p M)(w:Own h (.slice ad n cap) E m sz xs)(hM:E≠83):∀k,ad.map (fun(x:Addr)=>x.block)=some k→¬(k=b∨k=p):=fun k e=>by
  rcases w.2 with⟨e2,_⟩|⟨g,off,cap',l,e2,q,_⟩
  · cases e2;cases e
  · cases e2
    simp only[Option.map_some,Option.some.injEq] at e
    subst e
    have:=m'.FY q hM
    rintro(e|e)
    · exact this.1 e
    · exact this.2 e
end Go.aT
namespace Go.aT
open Go Go.an
theorem JA.ext{h h':Heap}{jb:Nat}{bs:List (Nat×Nat)}{J:Jd}{ca:Option Addr}{cc:Nat}(a:JA h jb bs J ca cc)(g:Ext h h'):JA h' jb bs J ca cc:=⟨g.blk a.hj,a.row.ext g,a.cs.ext g⟩
theorem JA.turn{h h':Heap}{jb:Nat}{bs:List (Nat×Nat)}{J J':Jd}{ca:Option Addr}{cc:Nat}(a:JA h jb bs J ca cc)(g:Gr (fun k=>k=jb) h h')(hj:h'[jb]? =some (.cells #[.slice ca bs.length cc, .bool J'.off, .bool J'.Ds, .bool J'.NJ, .bool J'.gave] 77))(hc:J'.c =J.c):JA h' jb bs J' ca cc:=by
  refine⟨hj,a.row.fr g (fun i e cs fr e2=>by rw[e,a.hj] at e2;cases e2), ?_⟩
  rw[hc]
  exact a.cs.fr g (by rintro i rfl;exact bf.cells a.hj (by decide)) fun x hx=>by
    have:=a.cs.Jy a.hj (by decide) x hx
    exact⟨fun e=>this.1 e.symm,fun e=>this.2 e.symm⟩
theorem aR.jf{h h':Heap}{jb:Nat}{v:Value}{n sz:Nat}{xs:List Value}{cs:Array Value}{E:TypeId}{fr:Nat×Nat}(r:aR h v n sz xs)(g:Gr (fun k=>k=jb) h h')(hj:h[jb]? =some (.cells cs E fr))(hE:qO E=false):aR h' v n sz xs:=r.fr g (by rintro i rfl;exact bf.cells hj hE)
theorem Gr.EW{h h':Heap}{jb:Nat}(bs:List (Nat×Nat))(g:Gr (fun k=>k=jb) h h'):Gr (JF jb bs) h h':=⟨g.1,fun k hk hn=>g.2 k hk (fun e=>hn (.inl e))⟩
end Go.aT
end
section
namespace Go.Proofs.YtegkejcglfgpmaaGreatDoor
open Go Go.an Go.aT
open Classical in
/-- what a change of one object comes to -/
noncomputable def PB(x:Option Ob)(kd n t:Int)(s:ByteArray):Option Ob×Int:=
  if aP s=false then (none,210) else if kd=4∧(n<0∨1099511627776<n) then (none,1) else match x with
    |none=>(none,211)
    |some o=>if (fB o kd n t).2 =0 then (some (fB o kd n t).1,0) else (none,(fB o kd n t).2)
noncomputable def PC(M:Md)(s:ByteArray):Option Ob→Md
  |none=>M
  |some o=>⟨upd M.f s o,M.E,M.t⟩
/-! ### many operations, one after the other -/
structure lG where
  kd:Int
  s:ByteArray
  l:List UInt8
  oa:Option Addr
  oc:Nat
  n:Int
  ka:Option Addr
  kn:Nat
  kc:Nat
@[reducible] def Hl(o:lG):List Value:=[.int .i64 o.kd, .string o.s, .slice o.oa o.l.length o.oc, .int .i64 o.n, .slice o.ka o.kn o.kc]
def pH:lG:=⟨0,ByteArray.empty,[],none,0,0,none,0,0⟩
@[reducible] def g'(L:List lG):List Value:=L.flatMap Hl
theorem pS(o:lG):(Hl o).length =5:=rfl
def j6(h:Heap)(o:lG):Prop:=Row h (.slice o.oa o.l.length o.oc) o.l.length 1 (o.l.map bv)∧o.s.size ≤9223372036854775807
theorem j6.ext{h h':Heap}{o:lG}(a:j6 h o)(g:Ext h h'):j6 h' o:=⟨a.1.ext g,a.2⟩
noncomputable def ri(M:Md)(o:lG):Md×An:=step M o.kd o.n o.s o.l
noncomputable def run(L:List lG):Md→Md:=fun M=>L.foldl (fun M o=>(ri M o).1) M
def M0:Md:=⟨fun _=>none,[],0⟩
theorem j7{L:List lG}{i:Nat}{P:lG→Prop}(h:∀o∈L,P o)(hi:i<L.length):P (L.getD i pH):=by
  rw[List.getD_eq_getElem?_getD,List.getElem?_eq_getElem hi];exact h _ (List.getElem_mem hi)
end Go.Proofs.YtegkejcglfgpmaaGreatDoor
end
section
namespace Go.Proofs.YtegkejcglfgpmaaGreatDoor
open Go.ChangeShapes Go.WideShapes Go.ChangeAt Go.RowKit
section
variable {H:Type} {enc:TypeId×Value→H}
def HA(h:an.Heap)(va:Option Addr)(vc:Nat)(L:List aT.Hs):Prop:=aT.HR h va vc L.length L∧∀k,va.map (fun(x:Addr)=>x.block)=some k→k<h.size
end
end Go.Proofs.YtegkejcglfgpmaaGreatDoor
namespace Go.Proofs.YtegkejcglfgpmaaGreatDoor
open Go.ChangeShapes Go.WideShapes Go.ChangeAt Go.RowKit
section
variable {H:Type} {enc:TypeId×Value→H}
def fieldsOf(P:Program)(t:TypeId):Option (List (TypeId×Nat)):=
  match P.underlying t with
  |some (.struct fs)=>some (fs.toList.map fun f=>(f.type,f.offset))
  |_=>none
theorem rj{P:Program}{W:World}{t:TypeId}{fuel:Nat}{cs:List Value}{x:DataW H×List MemPlace}{l:List (TypeId×Nat)}(hf:fieldsOf P t=some l)(h:DataW.trod enc P W 0 (fun _=>true) true fuel t cs=some x):
    ∃(xs:List (DataW H×List MemPlace)) (n:Nat),cs.length =P.cellsOf t∧x.1 = .agg (xs.map (·.1))∧∀(i:Nat) (p:TypeId×Nat),l[i]? =some p→∃y,xs[i]? =some y∧DataW.trod enc P W 0 (fun _=>true) true n p.1 ((cs.drop p.2).take (P.cellsOf p.1))=some y:=by
  unfold fieldsOf at hf
  cases hu:P.underlying t with
  |none=>simp[hu] at hf
  | some d =>
    cases d<;>simp only[hu] at hf<;>first| (cases hf;done)|skip
    rename_i fs
    simp only[Option.some.injEq] at hf
    obtain⟨xs,n,rfl,rfl,hl,hxl,hel⟩:=DataW.trod_struct hu h
    refine⟨xs,n,hl,rfl,fun i p hp=> ?_⟩
    rw[←hf,List.getElem?_map,Option.map_eq_some_iff] at hp
    obtain⟨f,h1,rfl⟩:=hp
    have h2:=hel i f (by simpa using h1)
    have hi:i<xs.length :=by
      rw[hxl]
      apply Nat.lt_of_not_le;intro hh
      rw[List.getElem?_eq_none (by simpa using hh)] at h1;cases h1
    rw[List.getElem?_eq_getElem hi] at h2⊢
    exact⟨_,rfl,h2⟩
theorem cut(l:List Value)(a b:Nat):l.drop a=(l.drop a).take b++l.drop (a+b):=by
  rw[←List.drop_drop,List.take_append_drop]
theorem zw{l:List (DataW H×List MemPlace)}{i:Nat}{y:DataW H×List MemPlace}(h:l[i]? =some y):Rows.uptoBulk y.1 ≤Rows.uptoBulk (DataW.agg (l.map (·.1))):=by
  have:Rows.uptoBulk y.1 ≤Rows.uptoBulkAll (l.map (·.1)):=by
    induction l generalizing i with
    |nil=>simp at h
    | cons x l ih =>
      simp only[List.map_cons,Rows.uptoBulkAll]
      cases i with
      |zero=>simp only[List.getElem?_cons_zero,Option.some.injEq] at h;subst h;omega
      |succ i=>have:=ih (i:=i) (by simpa using h);omega
  simp only[Rows.uptoBulk];omega
theorem zx{n:Int}(hw:(Lit.int .i64 n).wf =true): -9223372036854775808≤n∧n≤9223372036854775807:=by
  simp only[Lit.wf,Bool.and_eq_true,decide_eq_true_eq] at hw
  simpa[IntKind.min,IntKind.max,IntKind.signed,IntKind.bits] using hw
end
end Go.Proofs.YtegkejcglfgpmaaGreatDoor
namespace Go.Proofs.YtegkejcglfgpmaaGreatDoor
open Go.ChangeShapes Go.WideShapes Go.ChangeAt Go.RowKit
section
variable {H:Type} {enc:TypeId×Value→H}
theorem tc{α:Type}{f:α→List Value}{k:Nat}(d0:α)(hfl:∀x,(f x).length =k){P:Program}{W:World}{t q:TypeId}{fuel:Nat}{cs:List Value}{x:DataW H×List MemPlace}(ht:P.underlying t=some (.slice q))(hc:P.cellsOf q=k)(hk:0<k)(Q:α→DataW H→Prop)
    (hq:∀(n:Nat) (cs':List Value) (y:DataW H×List MemPlace),DataW.trod enc P W 0 (fun _=>true) true n q cs'=some y→∃z,cs'=f z∧Q z y.1)
    (h:DataW.trod enc P W 0 (fun _=>true) true fuel t cs=some x):∃va vc,∃L:List α,cs=[.slice va L.length vc]∧an.Row W.heap (.slice va L.length vc) L.length k (L.flatMap f)∧L.length +1≤Rows.uptoBulk x.1 ∧
      ∃ds:List (DataW H),ds.length =L.length ∧Rows.uptoBulkAll ds≤Rows.uptoBulk x.1 ∧∀i,i<L.length →∃dd,ds[i]? =some dd∧Q (L.getD i d0) dd:=by
  rcases Deep.open_slice ht h with⟨rfl,rfl⟩|⟨a,len,cap,m,n,D,Pl,rfl,_,hle,_,hm,rfl,hel⟩
  · exact⟨none,0,[],rfl,⟨by simp, .inl ⟨rfl,rfl⟩⟩,by simp[Rows.uptoBulk],[],rfl,by simp[Rows.uptoBulkAll],fun i hi=>by simp at hi⟩
  · have hm' : m = cap := hm
    have _inst:Inhabited α:=⟨d0⟩
    obtain⟨g,hG⟩:=Deep.choose_lt (n:=len) (p:=fun i (y:α)=>Q y (D i)∧∀j u,(f y)[j]? =some u→an.hcell W.heap (a.add (i*k+j))=some u) (fun i hi=>by
      obtain⟨cs',h1,h2⟩:=hel i (by omega)
      obtain⟨y,rfl,hy⟩:=hq _ _ _ h2
      rw[hc] at h1
      refine⟨y,hy,fun j u hu=> ?_⟩
      have hj:j<k:=by
        apply Nat.lt_of_not_le;intro hh
        rw[List.getElem?_eq_none (by rw[hfl];exact hh)] at hu;cases hu
      have h3:=(World.cells?_some h1).2.2 j hj
      rw[hu,an.dW rfl,an.add_add] at h3
      exact h3)
    have hl:((List.range len).map g).length =len:=by simp
    refine⟨some a,cap,(List.range len).map g,by rw[hl],⟨aT.eI hfl _, .inr ⟨a,cap,rfl,by rw[hl];exact hle,fun j u hu=> ?_⟩⟩, ?_,(List.range len).map D,by simp, ?_,fun i hi=> ?_⟩
    · have hj : j < len * k := by
        apply Nat.lt_of_not_le;intro hh
        rw[List.getElem?_eq_none (by rw[aT.eI hfl,hl];omega)] at hu;cases hu
      have hi:j/k<len:=(Nat.div_lt_iff_lt_mul hk).2 hj
      have hjk:j/k*k+j%k=j:=by rw[Nat.mul_comm];exact Nat.div_add_mod j k
      have hd:(((List.range len).map g).drop (j/k)).flatMap f=f (g (j/k))++(((List.range len).map g).drop (j/k+1)).flatMap f:=by
        rw[List.drop_eq_getElem_cons (by rw[hl];exact hi),List.flatMap_cons];simp
      have hu2:(f (g (j/k)))[j%k]? =some u:=by
        have h4:((((List.range len).map g).drop (j/k)).flatMap f)[j%k]? =some u:=by
          rw[←aT.jQ hfl,List.getElem?_drop,hjk];exact hu
        rw[hd,List.getElem?_append_left (by rw[hfl];exact Nat.mod_lt _ hk)] at h4
        exact h4
      have:=(hG _ hi).2 _ _ hu2
      rw[hjk] at this
      exact this
    · rw [hl]
      have:=uJ.qz ((List.range len).map D) ((List.range (m - len)).map fun j=>D (len+j))
      rw[List.length_map,List.length_range] at this
      refine Nat.le_trans ?_ this
      omega
    · simp only[Rows.uptoBulk];omega
    · rw [hl] at hi
      exact⟨D i,by simp[hi],by simpa[List.getD,hi] using(hG i hi).1⟩
theorem wm{ds:List (DataW H)}{i:Nat}{y:DataW H}(h:ds[i]? =some y):Rows.uptoBulk y≤Rows.uptoBulkAll ds:=by
  induction ds generalizing i with
  |nil=>simp at h
  | cons x l ih =>
    simp only[Rows.uptoBulkAll]
    cases i with
    |zero=>simp only[List.getElem?_cons_zero,Option.some.injEq] at h;subst h;omega
    |succ i=>have:=ih (i:=i) (by simpa using h);omega
def EX(P:Program)(t ti ts tb te tk:TypeId):Prop:=fieldsOf P t=some [(ti,0),(ts,1),(tb,2),(ti,3),(tk,4)]∧P.cellsOf t=5∧P.underlying ti=some (.int .i64)∧P.cellsOf ti=1∧P.underlying ts=some .string ∧P.cellsOf ts=1∧P.underlying tb=some (.slice te)∧P.cellsOf tb=1∧P.underlying te=some (.int .u8)∧P.cellsOf te=1∧P.underlying tk=some (.slice ti)∧P.cellsOf tk=1
theorem zy{P:Program}{W:World}{t ti ts tb te tk:TypeId}{fuel:Nat}{cs:List Value}{x:DataW H×List MemPlace}(hO:EX P t ti ts tb te tk)(h:DataW.trod enc P W 0 (fun _=>true) true fuel t cs=some x):
    ∃o:lG,cs=Hl o∧j6 W.heap o∧o.l.length +1≤Rows.uptoBulk x.1 ∧ -9223372036854775808≤o.kd ∧o.kd ≤9223372036854775807:=by
  obtain⟨hf,hct,hi,hci,hs,hcs,hb,hcb,he,hce,hk,hck⟩:=hO
  obtain⟨xs,n0,hl,hd,hel⟩:=rj hf h
  obtain⟨y0,_,h0⟩:=hel 0 _ rfl
  obtain⟨y1,_,h1⟩:=hel 1 _ rfl
  obtain⟨y2,g2,h2⟩:=hel 2 _ rfl
  obtain⟨y3,_,h3⟩:=hel 3 _ rfl
  obtain⟨y4,_,h4⟩:=hel 4 _ rfl
  obtain⟨kd,e0,_,hkd⟩:=DataW.trod_int hi h0
  obtain⟨s,e1,_,hsz⟩:=DataW.trod_string hs h1
  obtain⟨⟨oa,oc,l⟩,e2,hr,hbl⟩:=open_bytes hb he hce h2
  obtain⟨n,e3,_,_⟩:=DataW.trod_int hi h3
  obtain⟨ka,kn,kc,e4⟩:∃ka kn kc,(cs.drop 4).take (P.cellsOf tk)=[.slice ka kn kc]:=by
    rcases open_ints hk hi hci h4 with⟨e,_⟩|⟨a,len,cap,zs,e,_⟩
    · exact⟨_,_,_,e⟩
    · exact⟨_,_,_,e⟩
  refine⟨⟨kd,s,l,oa,oc,n,ka,kn,kc⟩, ?_,⟨hr.1, ?_⟩, ?_,(zx hkd).1,(zx hkd).2⟩
  · rw [hct] at hl
    rw[hci] at e0 e3
    rw[hcs] at e1
    rw[hcb] at e2
    rw[hck] at e4
    dsimp only at e0 e1 e2 e3 e4
    have c0:=cut cs 0 1
    have c1:=cut cs 1 1
    have c2:=cut cs 2 1
    have c3:=cut cs 3 1
    have c4:=cut cs 4 1
    rw[List.drop_of_length_le (l:=cs) (i:=4+1) (by omega),List.append_nil,e4] at c4
    rw[e3,c4] at c3
    rw[e2,c3] at c2
    rw[e1,c2] at c1
    rw[e0,c1,List.drop_zero] at c0
    rw[c0];rfl
  · have := hsz
    show s.size ≤_
    first|exact Nat.le_trans this (by decide)| (simp only[maxLen] at this;omega)
  · have := zw g2
    rw[hd]
    simp only at this hbl⊢
    omega
theorem ng{P:Program}{W:World}{b0:Nat}{rr:Reach}{tl t ti ts tb te tk:TypeId}{v:Value}{d:DataW H}{ps:List MemPlace}(hO:EX P t ti ts tb te tk)(ht:P.underlying tl=some (.slice t))(hval:Value.okWide P W rr b0 tl v)(h:DataW.Trod enc P W 0 (fun _=>true) true tl v d ps):
    ∃(va:Option Addr) (vc:Nat) (L:List lG),v= .slice va L.length vc∧an.Row W.heap (.slice va L.length vc) L.length 5 (g' L)∧(∀o∈L,j6 W.heap o∧o.l.length +1≤Rows.uptoBulk d)∧L.length +1≤Rows.uptoBulk d:=by
  obtain⟨a0,l0,c0,rfl⟩:=okWide_slice ht hval
  obtain⟨fuel,h⟩:=h
  obtain⟨va,vc,L,e0,hr,hb,ds,hdl,hdb,hel⟩:=tc pH pS ht hO.2.1 (by decide) (fun o dd=>j6 W.heap o∧o.l.length +1≤Rows.uptoBulk dd) (fun n cs' y hy=>by
    obtain⟨o,h1,h2,h3,_⟩:=zy hO hy;exact⟨o,h1,h2,h3⟩) h
  have e:Value.slice a0 l0 c0= .slice va L.length vc:=by simpa[Value.cells] using e0
  cases e
  refine⟨_,_,L,rfl,hr,fun o hm=> ?_,hb⟩
  obtain⟨i,hi,rfl⟩:=List.getElem_of_mem hm
  obtain⟨dd,hd,h1,h2⟩:=hel i hi
  rw[show L.getD i pH=L[i] by simp[List.getD,hi]] at h1 h2
  refine⟨h1, ?_⟩
  have h3:=wm hd
  have h4:Rows.uptoBulkAll ds≤Rows.uptoBulk d:=hdb
  omega
end
end Go.Proofs.YtegkejcglfgpmaaGreatDoor
end
section
namespace Go.aT
open Go Go.an
/-! ### the document's model, as the memory holds it -/
/-- a row that lies in a block of this type -/
def j8(E:TypeId)(h:Heap)(v:Value)(n sz:Nat)(xs:List Value):Prop:=Row h v n sz xs∧(n=0∨∃k cs fr,bh v=some k∧h[k]? =some (.cells cs E fr))
def lH(E:TypeId)(h:Heap)(k:Nat):Prop:=∀cs fr,h[k]? ≠some (.cells cs E fr)
section
variable {E:TypeId} {h h':Heap} {v:Value} {n sz:Nat} {xs:List Value} {F:Nat→Prop}
theorem j8.fr(r:j8 E h v n sz xs)(g:Gr F h h')(hF:∀k,F k→lH E h k):j8 E h' v n sz xs:=by
  rcases r.2 with h0|⟨k,ds,fr',e,m⟩
  · exact⟨r.1.zero h0, .inl h0⟩
  · have nk : ¬ F k := fun hk => hF k hk _ _ m
    have m':h'[k]? =some (.cells ds E fr'):=by rw[g.2 k (ag m) nk];exact m
    refine⟨⟨r.1.1,r.1.2.imp id ?_⟩, .inr ⟨k,ds,fr',e,m'⟩⟩
    rintro⟨a,cap,rfl,hc,hx⟩
    simp only[bh,Option.some.injEq] at e
    subst e
    refine⟨a,cap,rfl,hc,fun j u hu=> ?_⟩
    rw[dY (h:=h) (h':=h') (p:=a.add j) (by rw[add_block,m',m])]
    exact hx j u hu
theorem j8.of(o:Own h v E n sz xs):j8 E h v n sz xs:=by
  refine⟨o.row, ?_⟩
  rcases o.2 with⟨rfl,h0⟩|⟨g,off,cap,l,rfl,m,_⟩
  · exact .inl h0
  · exact .inr ⟨g,l,(0,0),rfl,m⟩
theorem j8.nil(E:TypeId)(h:Heap)(sz:Nat):j8 E h (.slice none 0 0) 0 sz []:=⟨Row.nil h sz, .inl rfl⟩
theorem lH.cells{k:Nat}{cs:Array Value}{E2:TypeId}{fr:Nat×Nat}(m:h[k]? =some (.cells cs E2 fr))(hE:E2≠E):lH E h k:=fun cs' fr' e=>by rw[m] at e;cases e;exact hE rfl
theorem lH.map{k:Nat}{es:Array MapEntry}{ck:Nat}(m:h[k]? =some (.map es ck)):lH E h k:=fun cs' fr' e=>by rw[m] at e;cases e
end
structure RO where
  o:Ob
  ca:Option Addr
  cc:Nat
  ba:Option Addr
  bc:Nat
@[reducible] def td(x:RO):List Value:=bl x.o.b x.o.e x.o.ho x.o.go (.slice x.ca 0 x.cc) (.slice x.ba x.o.dt.length x.bc)
def Ld:RO:=⟨⟨aC,0,false,false,[]⟩,none,0,none,0⟩
@[reducible] def bC(T:List RO):List Value:=T.flatMap td
theorem j9(x:RO):(td x).length =40:=rfl
theorem kR(T:List RO):(bC T).length =T.length *40:=eI j9 T
theorem dP(T:List RO):∀u∈bC T,u.oneCell' =true:=lO (fun p u hu=>by
  rcases List.mem_append.1 hu with h|h
  · exact dC ⟨p.o.b,p.o.e,p.o.ho,p.o.go,p.ca,0,p.cc⟩ u h
  · rw[List.mem_singleton.1 h];rfl) T
/-! ### strings in order -/
def fu(s t:ByteArray):Prop:=Lib.compareBytes s.data.toList t.data.toList <0
theorem ba_eq{s t:ByteArray}(h:s.data.toList =t.data.toList):s=t:=by
  cases s;cases t
  simp only[ByteArray.mk.injEq]
  rename_i a b
  rw[←Array.toArray_toList (xs:=a), ←Array.toArray_toList (xs:=b)]
  exact congrArg List.toArray h
theorem u'(s t:ByteArray):fu s t∨s=t∨fu t s:=by
  unfold fu
  rcases Int.lt_trichotomy (Lib.compareBytes s.data.toList t.data.toList) 0 with h|h|h
  · exact .inl h
  · exact .inr (.inl (ba_eq (qM h)))
  · have:=dD s.data.toList t.data.toList;exact .inr (.inr (by omega))
theorem eU{s t:ByteArray}(h:fu s t):s≠t:=by rintro rfl;unfold fu at h;rw[uQ] at h;omega
theorem nh{s t:ByteArray}(h:fu s t):¬fu t s:=by unfold fu at*;have:=dD s.data.toList t.data.toList;omega
theorem wo{s t u:ByteArray}(h:fu s t)(k:fu t u):fu s u:=by
  rcases u' s u with e|e|e
  · exact e
  · subst e;exact absurd k (nh h)
  · have h1 := gT u.data.toList s.data.toList t.data.toList (Int.le_of_lt e) (Int.le_of_lt h)
    have h2:=dD t.data.toList u.data.toList
    unfold fu at k;omega
theorem o6(s:ByteArray):∀{T:List RO},(T.Pairwise fun x y=>fu x.o.b.id y.o.b.id)→(∃A B,T=A++B∧(∀x∈A,fu x.o.b.id s)∧∀x∈B,fu s x.o.b.id)∨∃A x B,T=A++x::B∧(∀y∈A,fu y.o.b.id s)∧x.o.b.id =s
  |[],_=> .inl ⟨[],[],rfl,by simp,by simp⟩
  | x :: T, h => by
    obtain⟨h1,h2⟩:=List.pairwise_cons.1 h
    rcases u' x.o.b.id s with e|e|e
    · rcases o6 s h2 with ⟨A, B, rfl, k1, k2⟩ | ⟨A, y, B, rfl, k1, k2⟩
      · exact .inl ⟨x::A,B,rfl,fun z hz=>(List.mem_cons.1 hz).elim (fun q=>q▸e) (k1 z),k2⟩
      · exact .inr ⟨x::A,y,B,rfl,fun z hz=>(List.mem_cons.1 hz).elim (fun q=>q▸e) (k1 z),k2⟩
    · exact .inr ⟨[],x,T,rfl,by simp,e⟩
    · exact .inl ⟨[],x::T,rfl,by simp,fun z hz=>(List.mem_cons.1 hz).elim (fun q=>q▸e) (fun q=>wo e (h1 z q))⟩
/-! ### the model -/
structure bn(W:Nat→Prop)(h:Heap)(rb:Nat)(M:Md)(T:List RO)(oa:Option Addr)(oc:Nat)(ea:Option Addr)(ec:Nat)(es:List Value):Prop where
  hm:h[rb]? =some (.cells #[.slice oa T.length oc, .slice ea M.E.length ec, .int .i64 M.t] 86)
  row:j8 97 h (.slice oa T.length oc) T.length 40 (bC T)
  fq:T.Pairwise fun x y=>fu x.o.b.id y.o.b.id
  ob:∀x∈T,M.f x.o.b.id =some x.o ∧x.o.dt.length ≤512∧Row h (.slice x.ca 0 x.cc) 0 4 (c_ [])∧cj W h (.slice x.ba x.o.dt.length x.bc) x.o.dt.length 1 (x.o.dt.map bv)
  al:∀s o,M.f s=some o→∃x∈T,x.o.b.id =s
  er:cj W h (.slice ea M.E.length ec) M.E.length 1 es
  en:eo W h es M.E
  ln:T.length =M.E.length
  t0:0≤M.t
  t1:M.t ≤1099511627776
  kb:0<rb
  ix:∀s o,M.f s=some o→0≤o.b.idx ∧o.b.idx <M.E.length
def bF(W:Nat→Prop)(h:Heap)(rb:Nat)(M:Md):Prop:=∃T oa oc ea ec es,bn W h rb M T oa oc ea ec es
def RG(rb:Nat)(h h':Heap):Prop:=Gr (fun k=>k=rb) h h'
section
variable {W W' F:Nat→Prop} {h h':Heap} {rb:Nat} {M:Md} {T A B:List RO} {oa:Option Addr} {oc:Nat} {ea:Option Addr} {ec:Nat} {es:List Value} {s:ByteArray}
theorem bn.fr(m:bn W h rb M T oa oc ea ec es)(g:Gr F h h')(hF:∀k,F k→(bf h k∨W k)∧lH 97 h k)(h1:¬F rb):bn W h' rb M T oa oc ea ec es:=
  ⟨by rw[g.2 rb (ag m.hm) h1];exact m.hm,m.row.fr g (fun k hk=>(hF k hk).2),m.fq,fun x hx=>by obtain⟨k1,k2,k3,k4⟩:=m.ob x hx;exact⟨k1,k2,k3.zero rfl,k4.fr g fun k hk=>(hF k hk).1⟩,m.al,m.er.fr g fun k hk=>(hF k hk).1,m.en.fr g fun k hk=>(hF k hk).1,m.ln,m.t0,m.t1,m.kb,m.ix⟩
theorem bF.fr(m:bF W h rb M)(g:Gr F h h')(hF:∀k,F k→(bf h k∨W k)∧lH 97 h k)(h1:¬F rb):bF W h' rb M:=by
  obtain⟨T,oa,oc,ea,ec,es,m⟩:=m;exact⟨T,oa,oc,ea,ec,es,m.fr g hF h1⟩
theorem bn.ext(m:bn W h rb M T oa oc ea ec es)(g:Ext h h'):bn W h' rb M T oa oc ea ec es:=m.fr (F:=fun _=>False) ⟨g.1,fun k hk _=>g.2 k hk (by simp)⟩ (fun _ e=>e.elim) id
theorem bF.ext(m:bF W h rb M)(g:Ext h h'):bF W h' rb M:=by obtain⟨T,oa,oc,ea,ec,es,m⟩:=m;exact⟨T,oa,oc,ea,ec,es,m.ext g⟩
theorem bF.kb(m:bF W h rb M):rb<h.size :=by obtain⟨_,_,_,_,_,_,m⟩:=m;exact ag m.hm
theorem bF.mg{b p:Nat}{N:Md}(m:bF W h rb M)(g:MG b p h h')(k:Mod h b p N):bF W h' rb M:=by
  obtain⟨_,_,_,_,_,k⟩:=k
  obtain⟨T,oa,oc,ea,ec,es,m⟩:=m
  refine⟨T,oa,oc,ea,ec,es,m.fr g ?_ ?_⟩
  · rintro i (rfl | rfl)
    · exact⟨.inl (bf.cells k.hm (by decide)),lH.cells k.hm (by decide)⟩
    · exact⟨.inl (bf.map k.hp),lH.map k.hp⟩
  · rintro (rfl | rfl)
    · have:=m.hm;rw[k.hm] at this;cases this
    · have:=m.hm;rw[k.hp] at this;cases this
theorem dN.rg{b p:Nat}{N:Md}(m:dN W h b p N)(g:RG rb h h')(k:bF W' h rb M):dN W h' b p N:=by
  obtain⟨_,_,_,_,_,_,k⟩:=k
  refine m.fr g (fun i e=> .inl (e▸bf.cells k.hm (by decide))) ?_ ?_
  · rintro rfl;obtain⟨_,_,_,_,_,m⟩:=m;have:=m.hm;rw[k.hm] at this;cases this
  · rintro rfl;obtain⟨_,_,_,_,_,m⟩:=m;have:=m.hp;rw[k.hm] at this;cases this
theorem aR.rg{v:Value}{n sz:Nat}{xs:List Value}(r:aR h v n sz xs)(g:RG rb h h')(k:bF W h rb M):aR h' v n sz xs:=by
  obtain⟨_,_,_,_,_,_,k⟩:=k
  exact r.fr g fun i e=>e▸bf.cells k.hm (by decide)
theorem bn.find(m:bn W h rb M T oa oc ea ec es)(s:ByteArray):(M.f s=none∧∃A B,T=A++B∧(∀x∈A,fu x.o.b.id s)∧∀x∈B,fu s x.o.b.id)∨∃A x B,T=A++x::B∧(∀y∈A,fu y.o.b.id s)∧x.o.b.id =s∧M.f s=some x.o :=by
  rcases o6 s m.fq with⟨A,B,e,k1,k2⟩|⟨A,x,B,e,k1,k2⟩
  · refine .inl ⟨?_, A, B, e, k1, k2⟩
    cases hf:M.f s with
    |none=>rfl
    | some o =>
      obtain⟨x,hx,hs⟩:=m.al s o hf
      rw[e] at hx
      rcases List.mem_append.1 hx with h|h
      · exact absurd hs (eU (k1 x h))
      · exact absurd hs.symm (eU (k2 x h))
  · refine .inr ⟨A, x, B, e, k1, k2, ?_⟩
    have:=(m.ob x (by rw[e];simp)).1
    rw[k2] at this;exact this
theorem bn.kM(m:bn W h rb M T oa oc ea ec es)(s:ByteArray):aP s=false∨(aP s=true∧M.f s=none∧∃A B,T=A++B∧(∀x∈A,fu x.o.b.id s)∧∀x∈B,fu s x.o.b.id)∨(aP s=true∧∃A x B,T=A++x::B∧(∀y∈A,fu y.o.b.id s)∧x.o.b.id =s∧M.f s=some x.o):=by
  cases e:aP s with
  |false=>exact .inl rfl
  |true=>exact .inr ((m.find s).imp (fun k=>⟨rfl,k⟩) fun k=>⟨rfl,k⟩)
theorem bn.tick(m:bn W h rb M T oa oc ea ec es){t:Int}(g:RG rb h h')(hm:h'[rb]? =some (.cells #[.slice oa T.length oc, .slice ea M.E.length ec, .int .i64 t] 86))(h0:0≤t)(h1:t≤1099511627776):bn W h' rb ⟨M.f,M.E,t⟩ T oa oc ea ec es:=
  have nr:∀k,k=rb→bf h k∨W k:=fun k e=> .inl (e▸bf.cells m.hm (by decide))
  ⟨hm,m.row.fr g (fun k e=>e▸lH.cells m.hm (by decide)),m.fq,fun x hx=>by obtain⟨k1,k2,k3,k4⟩:=m.ob x hx;exact⟨k1,k2,k3.zero rfl,k4.fr g nr⟩,m.al,m.er.fr g nr,m.en.fr g nr,m.ln,h0,h1,m.kb,m.ix⟩
theorem Ch{x y:RO}(h:(A++x::B).Pairwise fun x y=>fu x.o.b.id y.o.b.id)(e:y.o.b.id =x.o.b.id):(A++y::B).Pairwise fun x y=>fu x.o.b.id y.o.b.id :=by
  rw[List.pairwise_append,List.pairwise_cons] at*
  obtain⟨h1,⟨h2,h3⟩,h4⟩:=h
  refine⟨h1,⟨fun z hz=>by rw[e];exact h2 z hz,h3⟩,fun z hz w hw=> ?_⟩
  rcases List.mem_cons.1 hw with q|q
  · subst q;rw[e];exact h4 z hz x (by simp)
  · exact h4 z hz w (by simp[q])
theorem Ci{y:RO}(h:(A++B).Pairwise fun x y=>fu x.o.b.id y.o.b.id)(hA:∀x∈A,fu x.o.b.id y.o.b.id)(hB:∀x∈B,fu y.o.b.id x.o.b.id):(A++y::B).Pairwise fun x y=>fu x.o.b.id y.o.b.id :=by
  rw[List.pairwise_append] at*
  refine⟨h.1,List.pairwise_cons.2 ⟨hB,h.2.1⟩,fun z hz w hw=> ?_⟩
  rcases List.mem_cons.1 hw with q|q
  · subst q;exact hA z hz
  · exact h.2.2 z hz w q
theorem bn.set{x y:RO}(m:bn W h rb M (A++x::B) oa oc ea ec es)(g:RG rb h h'){EY:Option Addr}{oc':Nat}(hm:h'[rb]? =some (.cells #[.slice EY (A++x::B).length oc', .slice ea M.E.length ec, .int .i64 M.t] 86))(row:j8 97 h' (.slice EY (A++x::B).length oc') (A++x::B).length 40 (bC (A++y::B)))
    (hb:y.o.b =x.o.b) (hd:y.o.dt =x.o.dt) (hba:y.ba =x.ba) (hbc:y.bc =x.bc) (hr:Row h' (.slice y.ca 0 y.cc) 0 4 (c_ [])):bF W h' rb ⟨upd M.f x.o.b.id y.o,M.E,M.t⟩:=by
  have nr:∀k,k=rb→bf h k∨W k:=fun k e=> .inl (e▸bf.cells m.hm (by decide))
  have hl:(A++y::B).length =(A++x::B).length :=by simp
  have hne:∀z,z∈A∨z∈B→z.o.b.id ≠x.o.b.id :=fun z hz=>by
    have h:=m.fq
    rw[List.pairwise_append,List.pairwise_cons] at h
    rcases hz with hz|hz
    · exact eU (h.2.2 z hz x (by simp))
    · exact fun e=>eU (h.2.1.1 z hz) e.symm
  refine⟨A++y::B,EY,oc',ea,ec,es, ?_, ?_,Ch m.fq (by rw[hb]),fun z hz=> ?_,fun t o ht=> ?_,m.er.fr g nr,m.en.fr g nr,by rw[hl];exact m.ln,m.t0,m.t1,m.kb,fun t o ht=> ?_⟩
  · rw[hl];exact hm
  · rw[hl];exact row
  · have hz' : z = y ∨ ((z ∈ A ∨ z ∈ B) ∧ z ∈ A ++ x :: B) := by
      rcases List.mem_append.1 hz with q|q
      · exact .inr ⟨.inl q,by simp[q]⟩
      · rcases List.mem_cons.1 q with q | q
        · exact .inl q
        · exact .inr ⟨.inr q,by simp[q]⟩
    rcases hz' with rfl|⟨q1,q2⟩
    · obtain ⟨_, k2, _, k4⟩ := m.ob x (by simp)
      refine⟨by rw[hb];exact jk _ _ _,by rw[hd];exact k2,hr, ?_⟩
      rw[hd,hba,hbc];exact k4.fr g nr
    · obtain ⟨k1, k2, k3, k4⟩ := m.ob z q2
      exact⟨by show upd M.f _ _ _=_;rw[upd_ne (hne z q1)];exact k1,k2,k3.zero rfl,k4.fr g nr⟩
  · by_cases e : t = x.o.b.id
    · exact⟨y,by simp,by rw[hb,e]⟩
    · obtain ⟨z, q1, q2⟩ := m.al t o (by rw [← ht]; exact (upd_ne e).symm)
      rcases List.mem_append.1 q1 with q|q
      · exact⟨z,by simp[q],q2⟩
      · rcases List.mem_cons.1 q with q | q
        · subst q;exact absurd q2.symm e
        · exact⟨z,by simp[q],q2⟩
  · have ht : upd M.f x.o.b.id y.o t = some o := ht
    by_cases e:t=x.o.b.id
    · subst e
      rw[jk] at ht
      cases ht
      rw[hb];exact m.ix _ _ (m.ob x (by simp)).1
    · rw [upd_ne e] at ht
      exact m.ix t o ht
theorem bn.put {y : RO} {e : List UInt8} {xa : Option Addr} {xc : Nat} (m : bn W h rb M (A ++ B) oa oc ea ec es) (hA : ∀ x ∈ A, fu x.o.b.id s) (hB : ∀ x ∈ B, fu s x.o.b.id) (hy : y.o.b.id = s) (hyl : y.o.dt.length ≤ 512) (hyi : y.o.b.idx = ((M.E.length : Nat) : Int)) (g : RG rb h h') {EY AV : Option Addr} {oc' AW : Nat}
    (hm:h'[rb]? =some (.cells #[.slice EY (A++y::B).length oc', .slice AV (M.E.length +1) AW, .int .i64 M.t] 86)) (row:j8 97 h' (.slice EY (A++y::B).length oc') (A++y::B).length 40 (bC (A++y::B))) (r1:Row h' (.slice y.ca 0 y.cc) 0 4 (c_ [])) (r2:cj W h' (.slice y.ba y.o.dt.length y.bc) y.o.dt.length 1 (y.o.dt.map bv))
    (er:cj W h' (.slice AV (M.E.length +1) AW) (M.E.length +1) 1 (es++[.slice xa e.length xc])) (he:e.length ≤64) (hx:cj W h' (.slice xa e.length xc) e.length 1 (e.map bv)):bF W h' rb ⟨upd M.f s y.o,M.E ++[e],M.t⟩:=by
  subst hy
  have nr:∀k,k=rb→bf h k∨W k:=fun k e=> .inl (e▸bf.cells m.hm (by decide))
  refine⟨A++y::B,EY,oc',AV,AW,es++[.slice xa e.length xc], ?_,row,Ci m.fq hA hB,fun z hz=> ?_,fun t o ht=> ?_, ?_, ?_, ?_,m.t0,m.t1,m.kb,fun t o ht=> ?_⟩
  · rw[show(M.E ++[e]).length =M.E.length +1 from by simp];exact hm
  · have hz' : z = y ∨ (z.o.b.id ≠ y.o.b.id ∧ z ∈ A ++ B) := by
      rcases List.mem_append.1 hz with q|q
      · exact .inr ⟨eU (hA z q),by simp[q]⟩
      · rcases List.mem_cons.1 q with q | q
        · exact .inl q
        · exact .inr ⟨fun e=>eU (hB z q) e.symm,by simp[q]⟩
    rcases hz' with rfl|⟨q1,q2⟩
    · exact⟨jk _ _ _,hyl,r1,r2⟩
    · obtain ⟨k1, k2, k3, k4⟩ := m.ob z q2
      exact⟨by show upd M.f _ _ _=_;rw[upd_ne q1];exact k1,k2,k3.zero rfl,k4.fr g nr⟩
  · by_cases e2 : t = y.o.b.id
    · exact⟨y,by simp,e2.symm⟩
    · obtain ⟨z, q1, q2⟩ := m.al t o (by rw [← ht]; exact (upd_ne e2).symm)
      rcases List.mem_append.1 q1 with q|q
      · exact⟨z,by simp[q],q2⟩
      · exact⟨z,by simp[q],q2⟩
  · rw[show(M.E ++[e]).length =M.E.length +1 from by simp];exact er
  · have m' := m.en.fr g nr
    refine⟨by simp[m'.1],fun i e' hi=> ?_⟩
    by_cases hl:i<M.E.length
    · rw [List.getElem?_append_left hl] at hi
      obtain⟨h0,a,c,h1,h2⟩:=m'.2 i e' hi
      exact⟨h0,a,c,by rw[List.getElem?_append_left (by rw[m'.1];exact hl)];exact h1,h2⟩
    · have h0 : i = M.E.length := by
        have:=(List.getElem?_eq_some_iff.1 hi).1
        simp at this;omega
      subst h0
      simp only[List.getElem?_concat_length,Option.some.injEq] at hi
      subst hi
      exact⟨he,xa,xc,by rw[←m'.1];simp,hx⟩
  · have:=m.ln;simp at this⊢;omega
  · have ht : upd M.f y.o.b.id y.o t = some o := ht
    have hl:(M.E ++[e]).length =M.E.length +1:=by simp
    by_cases e2:t=y.o.b.id
    · subst e2
      rw[jk] at ht
      cases ht
      rw[hyi];show(0:Int)≤_∧((M.E.length :Nat):Int)<(((M.E ++[e]).length :Nat):Int)
      rw[hl];omega
    · rw [upd_ne e2] at ht
      have:=m.ix t o ht
      show _∧_<(((M.E ++[e]).length :Nat):Int)
      rw[hl];omega
end
theorem bn.new{W:Nat→Prop}{h:Heap}{b:Nat}(m:h[b]? =some (.cells #[.slice none 0 0, .slice none 0 0, .int .i64 0] 86))(kb:0<b):bF W h b ⟨fun _=>none,[],0⟩:=
  ⟨[],none,0,none,0,[],{hm:=m,row:=j8.nil _ _ _,fq:=List.Pairwise.nil,ob:=by simp,al:=by simp,er:=cj.nil _ _ _,en:=⟨rfl,by simp⟩,ln:=rfl,t0:=by decide,t1:=by decide,kb:=kb,ix:=by simp}⟩
theorem RG.one{rb:Nat}{h h1 h2:Heap}(e:Ext h h1)(g:Grew (some rb) h1 h2):RG rb h h2:=(Gr.ext (Gr.start _ h) e).ct g fun _ e=> .inl (Option.some.inj e).symm
theorem RG.again{rb:Nat}{h h1 h2:Heap}(k:RG rb h h1)(g:Grew (some rb) h1 h2):RG rb h h2:=Gr.ct k g fun _ e=> .inl (Option.some.inj e).symm
theorem RG.then{rb:Nat}{h h1 h2:Heap}(k:RG rb h h1)(g:RG rb h1 h2):RG rb h h2:=⟨Nat.le_trans k.1 g.1,fun i hi hn=>(g.2 i (Nat.lt_of_lt_of_le hi k.1) hn).trans (k.2 i hi hn)⟩
theorem RG.aS{rb:Nat}{h h1:Heap}(e:Ext h h1):RG rb h h1:=Gr.ext (Gr.start _ h) e
theorem Cj{E:List (List UInt8)}{i:Int}(h:0≤i∧i<(E.length :Int)):∃p,c7 (cH E) i=(p,0):=by
  have hl:(cH E).length =E.length :=by unfold cH;simp
  refine⟨incl (cH E) i.toNat, ?_⟩
  unfold c7;rw[if_pos (by rw[hl];exact h)]
theorem iK{h:Heap}{v:Value}{A:An}{ba ia pa:Option Addr}{bc ic pc:Nat}(hv:v=wk A (.slice ba A.b.length bc) (.slice ia A.i.length ic) (.slice pa A.p.length pc))(o1:Own h (.slice ba A.b.length bc) 5 A.b.length 1 (A.b.map bv))(o2:Own h (.slice ia A.i.length ic) 9 A.i.length 1 (A.i.map Value.string))(o3:Own h (.slice pa A.p.length pc) 39 A.p.length 32 (hcs A.p))(h32:aB A.p):AnsAt h v A:=
  ⟨ba,bc,ia,ic,pa,pc,hv,aR.of o1 (by decide),aR.of o2 (by decide),aR.of o3 (by decide),h32⟩
def ry(s:ByteArray)(b:List UInt8)(n:Nat)(ad:Option Addr)(cap:Nat):RO:=⟨sW s b n,none,0,ad,cap⟩
theorem bn.PD{W:Nat→Prop}{h h':Heap}{rb:Nat}{M:Md}{T:List RO}{oa:Option Addr}{oc:Nat}{ea:Option Addr}{ec:Nat}{es:List Value}(m:bn W h rb M T oa oc ea ec es)(g:RG rb h h'):cj W h' (.slice ea M.E.length ec) M.E.length 1 es:=
  m.er.fr g fun k e=> .inl (e▸bf.cells m.hm (by decide))
theorem PE{a:Option Addr}{c k:Nat}:a=if c=0 then a else a.map (·.add (0*k)):=by
  split
  · rfl
  · cases a<;>simp[Addr.add]
/-! ### the records of the row -/
open Go.Proofs.YtegkejcglfgpmaaGreatDoor
@[reducible] def iL(x:RO):Rec:=⟨x.o.b,x.o.e,x.o.ho,x.o.go,x.ca,0,x.cc⟩
section
variable {W:Nat→Prop} {h:Heap} {rb:Nat} {M:Md} {T:List RO} {oa:Option Addr} {oc:Nat} {ea:Option Addr} {ec:Nat} {es:List Value} {S:List Rec} {k:Nat} {x:RO}
theorem bn.enum(m:bn W h rb M T oa oc ea ec es):dx M (T.map iL) where
  nd:=by
    rw[List.map_map]
    exact List.pairwise_map.2 (m.fq.imp fun q=>eU q)
  at_:=fun r hr=>by obtain⟨x,hx,rfl⟩:=List.mem_map.1 hr;exact⟨x.o,(m.ob x hx).1,rfl,rfl,rfl,rfl⟩
  al:=fun s o hs=>by obtain⟨x,hx,e⟩:=m.al s o hs;exact⟨iL x,List.mem_map.2 ⟨x,hx,rfl⟩,e⟩
theorem bn.Le(m:bn W h rb M T oa oc ea ec es):j0 M=live (T.map iL):=by
  rw[lS m.enum]
  refine List.mergeSort_of_pairwise ?_
  unfold live ids
  refine List.pairwise_map.2 (List.Pairwise.sublist List.filter_sublist (List.pairwise_map.2 (m.fq.imp fun {a b} q=> ?_)))
  have:Go.Proofs.ltOf vY b.o.b.id a.o.b.id =false:=BE.2 (by have:=dD a.o.b.id.data.toList b.o.b.id.data.toList;unfold fu at q;omega)
  simp[this]
theorem bn.Lf(m:bn W h rb M T oa oc ea ec es)(hp:S.Perm ((T.map iL).filter (dE M.t)))(hs:S.Pairwise fZ):e6 M=Go.aT.ids S:=uZ m.enum hp fun p q _ h2 h3=>by
  have:=List.pairwise_iff_getElem.1 hs p q (by omega) h3 h2
  simpa[List.getD,h3,Nat.lt_trans h2 h3] using this
theorem iM(hx:T[k]? =some x):(T.take (k+1)).map iL=(T.take k).map iL++[iL x]:=by rw[List.take_add_one,hx];simp
theorem iN(hx:T[k]? =some x)(hg:x.o.go =true):live ((T.take (k+1)).map iL)=live ((T.take k).map iL):=by rw[iM hx];simp[live,ids,List.filter_append,uY,hg]
theorem iO(hx:T[k]? =some x)(hg:x.o.go =false):live ((T.take (k+1)).map iL)=live ((T.take k).map iL)++[x.o.b.id]:=by rw[iM hx];simp[live,ids,List.filter_append,uY,hg]
end
/-! ### places in the row -/
/-- the place of an id in the row: where it is, or would be -/
def AtP(T:List RO)(s:ByteArray)(k:Nat)(r:Bool):Prop:=∃A B,T=A++B∧A.length =k∧(∀x∈A,fu x.o.b.id s)∧((B=[]∧r=false)∨∃x B',B=x::B'∧¬fu x.o.b.id s∧r=decide (x.o.b.id =s))
section
variable {T A B:List RO} {s:ByteArray} {k i j:Nat} {x:RO} {r:Bool}
theorem AtP.step(a:AtP T s k r)(hi:i≤k):(i<k∧i<T.length ∧∃x,T[i]? =some x∧fu x.o.b.id s)∨(i=k∧¬i<T.length ∧r=false)∨(i=k∧i<T.length ∧∃x,T[i]? =some x∧¬fu x.o.b.id s∧decide (x.o.b.id =s)=r):=by
  obtain⟨A,B,rfl,rfl,hA,hB⟩:=a
  rcases Nat.lt_or_ge i A.length with h|h
  · exact .inl ⟨h,by rw[List.length_append];omega,A[i],by rw[List.getElem?_append_left h,List.getElem?_eq_getElem h],hA _ (List.getElem_mem h)⟩
  · have e : i = A.length := by omega
    subst e
    rcases hB with⟨rfl,h0⟩|⟨x,B',rfl,h1,h2⟩
    · exact .inr (.inl ⟨rfl,by simp,h0⟩)
    · exact .inr (.inr ⟨rfl,by simp,x,by simp,h1,h2.symm⟩)
theorem AtP.no(hA:∀x∈A,fu x.o.b.id s)(hB:∀x∈B,fu s x.o.b.id):AtP (A++B) s A.length false:=by
  refine⟨A,B,rfl,rfl,hA, ?_⟩
  cases B with
  |nil=>exact .inl ⟨rfl,rfl⟩
  |cons x B=>exact .inr ⟨x,B,rfl,nh (hB x (by simp)),(decide_eq_false fun e=>eU (hB x (by simp)) e.symm).symm⟩
theorem AtP.yes(hA:∀x∈A,fu x.o.b.id s)(e:x.o.b.id =s):AtP (A++x::B) s A.length true:=
  ⟨A,x::B,rfl,rfl,hA, .inr ⟨x,B,rfl,fun h=>eU h e,(decide_eq_true e).symm⟩⟩
def PF(T:List RO)(s:ByteArray)(q:Nat)(e:Int):Prop:=(aP s=false∧q=0∧e=210)∨(aP s=true∧(∃k,AtP T s k false)∧q=0∧e=211)∨(aP s=true∧AtP T s q true∧e=0)
theorem Du(hx:T[k]? =some x):T.getD k Ld=x∧k<T.length :=⟨by simp[List.getD,hx],(List.getElem?_eq_some_iff.1 hx).1⟩
theorem zz:A.length <(A++x::B).length :=by rw[List.length_append,List.length_cons];omega
theorem EZ:0<(A++x::B).length :=by rw[List.length_append,List.length_cons];omega
theorem tf:(A++x::B)[A.length]? =some x:=by simp
end
end Go.aT
namespace Go.an
open Go Go.aT
section
variable {P:Program} {h:Heap} {a:Addr} {va xa:Option Addr} {n c m k q j:Nat} {T A B:List RO} {x:RO} {S:TypeId} {u:Value}
theorem Row.ro(r:Row h (.slice (some a) n c) m 40 (bC T))(hx:T[k]? =some x)(hS:cO P S=some (true,40))(hq:q=k*40):Loads P h S (a.add q) (.agg (td x).toArray):=by
  obtain⟨e,hk⟩:=Du hx;rw[←e];exact Row.fm (d:=Ld) j9 r hS hk hq
theorem Row.Lg(r:Row h (.slice (some a) n c) m 40 (bC T))(hx:T[k]? =some x)(hu:(td x)[j]? =some u):hcell h (a.add (k*40+j))=some u:=by
  obtain⟨e,hk⟩:=Du hx;rw[←e] at hu;exact r.cells _ _ (sN (d:=Ld) j9 hk hu)
theorem Row.zA(r:Row h (.slice (some a) n c) m 40 (bC T))(hx:T[k]? =some x):hcell h (a.add (k*40))=some (.string x.o.b.id):=Row.Lg (k:=k) (j:=0) r hx rfl
theorem Row.Hm(r:Row h (.slice (some a) n c) m 40 (bC T))(hx:T[k]? =some x):hcell h (a.add (k*40+37))=some (.bool x.o.go):=Row.Lg (k:=k) (j:=37) r hx rfl
theorem Row.Jz(r:Row h (.slice (some a) n c) m 40 (bC T))(hx:T[k]? =some x)(hS:cO P S=some (true,39))(hq:q=k*40):Loads P h S (a.add q) (.agg (rc x.o.b x.o.e x.o.ho x.o.go (.slice x.ca 0 x.cc)).toArray):=by
  subst hq
  refine Loads.agg hS fun j u hu=> ?_
  rw[add_add]
  exact r.Lg hx (by show(rc x.o.b x.o.e x.o.ho x.o.go (.slice x.ca 0 x.cc)++[_])[j]? =some u;rw[List.getElem?_append_left (List.getElem?_eq_some_iff.1 hu).1];exact hu)
theorem Row.Hn{b:Nat}{E:TypeId}{fr:Nat×Nat}(m:h[b]? =some (.cells (td x).toArray E fr)):Row h (.slice (some ⟨b,0,none⟩) 1 1) 1 40 (bC [x]):=by
  rw[show bC [x]=td x from List.append_nil _];exact Row.blk m rfl
theorem Row.Dv{b:Nat}{E:TypeId}{fr:Nat×Nat}(m:h[b]? =some (.cells (rcs (iL x)).toArray E fr)):Row h (.slice (some ⟨b,0,none⟩) 1 1) 1 39 (a_ [iL x]):=by
  rw[show a_ [iL x]=rcs (iL x) from List.append_nil _];exact Row.blk m rfl
theorem bn.bE{W:Nat→Prop}{h h':Heap}{rb c:Nat}{M:Md}{T:List RO}{oa:Option Addr}{oc:Nat}{ea:Option Addr}{ec:Nat}{es:List Value}{cs:Array Value}{E:TypeId}{fr:Nat×Nat}(m:bn W h rb M T oa oc ea ec es)(g:Grew (some c) h h')(k:h[c]? =some (.cells cs E fr))(hE:qO E=false)(hT:E≠97)(hn:rb≠c):bn W h' rb M T oa oc ea ec es:=
  m.fr (F:=fun i=>i=c) ⟨g.1,fun _ hi hne=>g.2 _ hi fun e=>hne (Option.some.inj e)⟩ (fun _ e=>e▸⟨.inl (bf.cells k hE),lH.cells k hT⟩) hn
theorem _root_.Go.aT.bF.bE{W:Nat→Prop}{h h':Heap}{rb c:Nat}{M:Md}{cs:Array Value}{E:TypeId}{fr:Nat×Nat}(m:bF W h rb M)(g:Grew (some c) h h')(k:h[c]? =some (.cells cs E fr))(hE:qO E=false∧E≠97)(hn:rb≠c):bF W h' rb M:=by
  obtain⟨T,oa,oc,ea,ec,es,m⟩:=m;exact⟨T,oa,oc,ea,ec,es,bn.bE m g k hE.1 hE.2 hn⟩
theorem Row.Ho(r:Row h (.slice va (A++B).length c) (A++B).length 40 (bC (A++B))):Row h (.slice va A.length c) A.length 40 (bC A):=by
  refine⟨kR A, ?_⟩
  rcases r.2 with⟨e,h0⟩|⟨a,cap,e,hc,hx⟩
  · rw [List.length_append] at h0
    have h1:A.length =0:=by omega
    simp only[Value.slice.injEq] at e
    obtain⟨rfl,_,rfl⟩:=e
    exact .inl ⟨by rw[h1],h1⟩
  · simp only [Value.slice.injEq] at e
    obtain⟨rfl,_,rfl⟩:=e
    exact .inr ⟨a,_,rfl,by rw[List.length_append] at hc;omega,fun j u hu=>hx j u (by show((A++B).flatMap td)[j]? =_;rw[List.flatMap_append,List.getElem?_append_left (List.getElem?_eq_some_iff.1 hu).1];exact hu)⟩
theorem Row.Hp(r:Row h (.slice va (A++B).length c) (A++B).length 40 (bC (A++B)))(e:xa=if c=A.length then va else va.map (·.add (A.length *40))):Row h (.slice xa ((A++B).length - A.length) (c - A.length)) B.length 40 (bC B):=by
  have hl:(A++B).length - A.length =B.length :=by simp
  rw[hl]
  refine⟨kR B, ?_⟩
  rcases r.2 with⟨e2,h0⟩|⟨a,cap,e2,hc,hx⟩
  · rw [List.length_append] at h0
    have h1:A.length =0:=by omega
    have h2:B.length =0:=by omega
    simp only[Value.slice.injEq] at e2
    obtain⟨rfl,_,rfl⟩:=e2
    refine .inl ⟨?_,h2⟩
    rw[e,h1,h2];rfl
  · simp only [Value.slice.injEq] at e2
    obtain⟨rfl,_,rfl⟩:=e2
    rw[List.length_append] at hc
    by_cases hb:c=A.length
    · have h2 : B = [] := List.eq_nil_of_length_eq_zero (by omega)
      subst h2
      rw[if_pos hb] at e
      subst e
      exact .inr ⟨a,_,rfl,by simp,fun j u hu=>by simp[bC] at hu⟩
    · rw [if_neg hb] at e
      subst e
      refine .inr ⟨a.add (A.length *40),_,rfl,by omega,fun j u hu=> ?_⟩
      rw[add_add]
      refine hx _ u ?_
      show((A++B).flatMap td)[_]? =_
      rw[List.flatMap_append,List.getElem?_append_right (by rw[eI j9];omega),eI j9,Nat.add_sub_cancel_left]
      exact hu
theorem wq{e:Int}{ho go:Bool}{ca:Option Addr}{cc:Nat}:splice (bC (A++x::B)) (A.length *40) (rc x.o.b e ho go (.slice ca 0 cc))=bC (A++⟨⟨x.o.b,e,ho,go,x.o.dt⟩,ca,cc,x.ba,x.bc⟩::B):=by
  have h1:(bC A).length =A.length *40:=kR A
  have h2:(rc x.o.b e ho go (.slice ca 0 cc)).length =39:=rfl
  have h3:(rc x.o.b x.o.e x.o.ho x.o.go (.slice x.ca 0 x.cc)).length =39:=rfl
  unfold splice
  show(((A++x::B).flatMap td).take _++_++((A++x::B).flatMap td).drop _)=(A++_::B).flatMap td
  rw[List.flatMap_append,List.flatMap_append,List.flatMap_cons,List.flatMap_cons,List.take_left' h1, ←List.drop_drop,List.drop_left' h1,h2]
  show _=A.flatMap td++((rc x.o.b e ho go (.slice ca 0 cc)++[_])++_)
  rw[show td x++B.flatMap td=rc x.o.b x.o.e x.o.ho x.o.go (.slice x.ca 0 x.cc)++([.slice x.ba x.o.dt.length x.bc]++B.flatMap td) from List.append_assoc _ _ _,List.drop_left' h3]
  simp only[List.append_assoc]
end
end Go.an
end
section
namespace Go.Proofs.YtegkejcglfgpmaaGreatDoor
open Go Go.an Go.aT
noncomputable def PG:Code:=Tryz.f122.body.getD .skip
theorem zB(h:Heap):Sat Tryz.prog 122 #[.slice none 0 0] h fun v h'=>n_ h h' 180 v []:=by
 refine ak Tryz.func122 8 fun a hF=>qP [] hF fun a hF=>cS<|qP [(4,.bool true)] hF fun a hF=>cT 4 hF<|qP [(2,.slice none 0 0)] hF fun a hF=>cR (yT ?_)
 exact rT 2 (.slice none 0 0) hF<|⟨none,0,rfl,Own.nil _ _ _,(fun k e=>by cases e),Ext.refl h⟩
theorem wu(h:Heap)(L:List Pl)(aa:Addr)(vc:Nat)(hr:Row h (.slice (some aa) L.length vc) L.length 4 (c_ L))(hL:L.length ≤1099511627776):Sat Tryz.prog 122 #[.slice (some aa) L.length vc] h fun v h'=>n_ h h' 180 v L:=by
 have e0:=Ext.refl h
 have sep:Sep h.size h.size []:=Sep.nil _ _
 refine ak Tryz.func122 8 fun a hF=>qP [] hF fun a hF=>cS<|qP [(4,.bool false)] hF fun a hF=>cF 4 hF<|cN<|tK ?_
 refine qS hF<|tN 0 (.slice (some ⟨h.size,0,none⟩) 0 0) #[] 180 fun h1 g2 m3=> ?_
 replace sep:=sep.nw e0.size m3
 have aA:Own h1 (.slice (some ⟨h.size,0,none⟩) 0 0) 180 ([]:List Pl).length 4 (c_ []):=Own.empty 4 m3
 replace sep:Sep h.size h1.size [(some ⟨h.size,0,none⟩:Option Addr).map (·.block)]:=sep
 replace e0:=e0.ext g2
 replace hr:=hr.ext g2
 clear m3
 refine tP 2 L.length 32 (c_ L) aA hr (qJ _) (fun dH cap5 h6 aA g7 hb8=> ?_) (hl:=(by unfold maxLen;simp;omega)) (hb:=(by simp;omega)) (hZ:=by first|rfl|exact List.flatMap_append.symm |simp[c_])
 clear hr
 have s9:=sep
 replace sep:=sep.sa g7 0 hb8 aA e0.size;clear hb8
 refine sT [(2,.slice dH L.length cap5)] fun a hF=>cR<|rT 2 (.slice dH L.length cap5) hF ?_
 replace e0:=e0.grew g7 (s9.l 0)
 exact⟨_,_,rfl,aA,sep.low 0 rfl,e0⟩
theorem kS(h:Heap)(L:List Pl)(va:Option Addr)(vc:Nat)(hr:Row h (.slice va L.length vc) L.length 4 (c_ L))(hL:L.length ≤1099511627776):Sat Tryz.prog 122 #[.slice va L.length vc] h fun v h'=>n_ h h' 180 v L:=by
 cases va with
 | none =>
  rcases hr.2 with⟨e,e1⟩|⟨a,cap,e,_⟩
  ·simp only[Value.slice.injEq,true_and] at e
   obtain rfl:L=[]:=List.eq_nil_of_length_eq_zero e1
   obtain rfl:vc=0:=e.2
   exact zB h
  ·cases e
 |some aa=>exact wu h L aa vc hr hL
end Go.Proofs.YtegkejcglfgpmaaGreatDoor
end
section
namespace Go.Proofs.YtegkejcglfgpmaaGreatDoor
open Go Go.an Go.aT
noncomputable def PH:Code:=Tryz.f101.body.getD .skip
theorem wx(h:Heap)(br:Nat)(x:RB)(e:Int)(ho go:Bool)(va:Option Addr)(n vc:Nat)(hm:h[br]? =some (.cells (rc x e ho go (.slice va n vc)).toArray 95))(bu:Nat)(u:Int)(hu:h[bu]? =some (.cells #[.int .i64 u] 3))(hne:bu≠br):Sat Tryz.prog 101 #[.pointer (some ⟨br,0,none⟩),.pointer (some ⟨bu,0,none⟩)] h fun _ h'=>h'[br]? =some (.cells (rc x (max e u) ho go (.slice va n vc)).toArray 95)∧Grew (some br) h h':=by
 have g0:=Grew.refl (some br) h
 refine ak Tryz.func101 12 fun a hF=>cD [0,0,2,6,14,0,62,127,255,511] 0 mixed hF<|mP 15 [0,1,2,3] [pV br,pV br,pV br,.pointer (some ⟨br,35,none⟩)]<|mO 31 16 4 35 (.int .i64 e) hm<|mO 63 48 5 0 (.int .i64 u) hu<|m1 127 6 (.int .i64 (max e u)) (.int .i64 (if u>e then u else e)) (congrArg (Value.int .i64) (by rw[Int.max_def];split<;>split<;>omega))<|mP 511 [7,8] [pV br,.pointer (some ⟨br,35,none⟩)] ?_
 refine mV 1023 1023 9 35 [.int .i64 (max e u)] (rc x (max e u) ho go (.slice va n vc)) hm fun h1 g2 zq=> ?_
 replace g0:=g0.trans g2
 replace hu:=hu.y g2
 replace hm:=zq
 exact mE [] fun a hF=>n0 hF<|⟨hm,g0⟩
noncomputable def PI:Code:=Tryz.f102.body.getD .skip
theorem wy(h:Heap)(br:Nat)(x:RB)(e:Int)(ho go:Bool)(va:Option Addr)(n vc:Nat)(hm:h[br]? =some (.cells (rc x e ho go (.slice va n vc)).toArray 95))(bu:Nat)(on:Bool)(hu:h[bu]? =some (.cells #[.bool on] 4))(hne:bu≠br):Sat Tryz.prog 102 #[.pointer (some ⟨br,0,none⟩),.pointer (some ⟨bu,0,none⟩)] h fun _ h'=>h'[br]? =some (.cells (rc x e on go (.slice va n vc)).toArray 95)∧Grew (some br) h h':=by
 have g0:=Grew.refl (some br) h
 refine ak Tryz.func102 7 fun a hF=>rS hF<|tO 1 0 hu<|tV 4 36 [.bool on] (rc x e on go (.slice va n vc)) hm fun h1 g2 zq=> ?_
 replace g0:=g0.trans g2
 replace hu:=hu.y g2
 replace hm:=zq
 exact sE [] fun a hF=>n0 hF<|⟨hm,g0⟩
noncomputable def PJ:Code:=Tryz.f103.body.getD .skip
theorem zC(h:Heap)(br:Nat)(x:RB)(e:Int)(ho go:Bool)(va:Option Addr)(n vc:Nat)(hm:h[br]? =some (.cells (rc x e ho go (.slice va n vc)).toArray 95)):Sat Tryz.prog 103 #[.pointer (some ⟨br,0,none⟩)] h fun _ h'=>h'[br]? =some (.cells (rc x e ho true (.slice none 0 0)).toArray 95)∧Grew (some br) h h':=by
 have g0:=Grew.refl (some br) h
 refine ak Tryz.func103 8 fun a hF=>rS hF<|tV 4 37 [.bool true] (rc x e ho true (.slice va n vc)) hm fun h1 g2 zq=> ?_
 replace g0:=g0.trans g2
 replace hm:=zq
 refine tV 7 38 [.slice none 0 0] (rc x e ho true (.slice none 0 0)) hm fun h3 g4 zq=> ?_
 replace g0:=g0.trans g4
 replace hm:=zq
 exact sE [] fun a hF=>n0 hF<|⟨hm,g0⟩
noncomputable def PK:Code:=Tryz.f100.body.getD .skip
theorem rk(h:Heap)(x:RB)(e:Int)(ho go:Bool)(L:List Pl)(va:Option Addr)(vc:Nat)(hr:Row h (.slice va L.length vc) L.length 4 (c_ L))(hL:L.length ≤1099511627776)(bu:Nat)(u:Int)(hu:h[bu]? =some (.cells #[.int .i64 u] 3)):Sat Tryz.prog 100 #[.agg (rc x e ho go (.slice va L.length vc)).toArray,.func (.func 101) #[] #[.pointer (some ⟨bu,0,none⟩)]] h fun v h'=>∃c,v= .agg (rc x (max e u) ho go c).toArray ∧n_ h h' 180 c L:=by
 have e0:=Ext.refl h
 have sep:Sep h.size h.size []:=Sep.nil _ _
 have hbu:=ag hu
 refine ak Tryz.func100 12 fun a hF=>qS hF<|tN 0 (pV h.size) ((rc x e ho go (.slice va L.length vc)).toArray) 95 fun h1 g2 m3=> ?_
 replace sep:=sep.nw e0.size m3
 refine tN 1 (pV h1.size) ((rc aC (0:Int) false false (.slice none 0 0)).toArray) 95 fun h4 g5 m6=> ?_
 replace e0:=e0.ext g2
 replace sep:=sep.nw e0.size m6
 refine sT [(2,pV h.size),(4,pV h1.size)] fun a hF=>qS hF ?_
 replace m3:=m3.x g5
 refine tO 1 38 m3 ?_
 replace e0:=e0.ext g5
 refine tG 2 (kS _ L va vc (hr.ext e0) hL) ?_
 rintro _ h9 ⟨et,b8,rfl,aq,hge,g⟩
 have hlo:=e0.size
 have a7:=sep
 replace hu:=(hu.x g2).x g5
 replace e0:=e0.ext g
 replace hu:=hu.x g
 replace m3:=m3.x g
 replace m6:=m6.x g
 replace sep:=sep.up g.size
 replace sep:=a7.cons (x:=et.map (fun(x:Addr)=>x.block)) g.size hlo (fun k e=>⟨hge k e,aq.lt (by rw[aj];exact e)⟩)
 have bq:Own h9 (.slice et L.length b8) 180 L.length 4 (c_ L):=aq;clear aq a7 hlo hge g
 refine tV 4 38 [.slice et L.length b8] (rc x e ho go (.slice et L.length b8)) m3 fun h10 g11 zq=> ?_
 replace hu:=hu.y g11 (fun e=>by have:=sep.low 2 rfl _ e.symm;omega)
 replace m3:=zq
 refine sT [] fun a hF=>qS hF<|tF 1 (Does.call (f:=101) (args:= #[.pointer (some ⟨h.size,0,none⟩),.pointer (some ⟨bu,0,none⟩)]) (by kernel_rfl) (wx _ _ x e ho go _ _ _ m3 bu u hu (by have:=hbu;omega))) ?_
 rintro _ h12 ⟨hm2,g⟩
 replace e0:=e0.grew g11 (sep.l 2)
 replace bq:=bq.k g11 (sep.ap 0 2)
 replace m6:=m6.y g11 (sep.bp 1 2)
 replace sep:=sep.up g11.size
 replace e0:=e0.grew g (sep.l 2)
 replace bq:=bq.k g (sep.ap 0 2)
 replace hu:=hu.y g (fun e=>by have:=sep.low 2 rfl _ e.symm;omega)
 replace m6:=m6.y g (sep.bp 1 2)
 replace sep:=sep.up g.size
 clear m3;have m3:=hm2;clear hm2 g
 refine sT [] fun a hF=>qS hF<|tR 0 m3<|bG 1 (rc x (max e u) ho go (.slice et L.length b8)) m6 fun h13 g14 zq=> ?_
 replace hu:=hu.y g14 (fun e=>by have:=sep.low 1 rfl _ e.symm;omega)
 replace m6:=zq
 refine sT [] fun a hF=>cR<|rB m6 hF ?_
 replace e0:=e0.grew g14 (sep.l 1)
 replace bq:=bq.k g14 (sep.ap 0 1)
 exact⟨_,rfl,⟨_,_,rfl,bq,sep.low 0 rfl,e0⟩⟩
theorem rl(h:Heap)(x:RB)(e:Int)(ho go:Bool)(L:List Pl)(va:Option Addr)(vc:Nat)(hr:Row h (.slice va L.length vc) L.length 4 (c_ L))(hL:L.length ≤1099511627776)(bu:Nat)(on:Bool)(hu:h[bu]? =some (.cells #[.bool on] 4)):Sat Tryz.prog 100 #[.agg (rc x e ho go (.slice va L.length vc)).toArray,.func (.func 102) #[] #[.pointer (some ⟨bu,0,none⟩)]] h fun v h'=>∃c,v= .agg (rc x e on go c).toArray ∧n_ h h' 180 c L:=by
 have e0:=Ext.refl h
 have sep:Sep h.size h.size []:=Sep.nil _ _
 have hbu:=ag hu
 refine ak Tryz.func100 12 fun a hF=>qS hF<|tN 0 (pV h.size) ((rc x e ho go (.slice va L.length vc)).toArray) 95 fun h1 g2 m3=> ?_
 replace sep:=sep.nw e0.size m3
 refine tN 1 (pV h1.size) ((rc aC (0:Int) false false (.slice none 0 0)).toArray) 95 fun h4 g5 m6=> ?_
 replace e0:=e0.ext g2
 replace sep:=sep.nw e0.size m6
 refine sT [(2,pV h.size),(4,pV h1.size)] fun a hF=>qS hF ?_
 replace m3:=m3.x g5
 refine tO 1 38 m3 ?_
 replace e0:=e0.ext g5
 refine tG 2 (kS _ L va vc (hr.ext e0) hL) ?_
 rintro _ h9 ⟨et,b8,rfl,aq,hge,g⟩
 have hlo:=e0.size
 have a7:=sep
 replace hu:=(hu.x g2).x g5
 replace e0:=e0.ext g
 replace hu:=hu.x g
 replace m3:=m3.x g
 replace m6:=m6.x g
 replace sep:=sep.up g.size
 replace sep:=a7.cons (x:=et.map (fun(x:Addr)=>x.block)) g.size hlo (fun k e=>⟨hge k e,aq.lt (by rw[aj];exact e)⟩)
 have bq:Own h9 (.slice et L.length b8) 180 L.length 4 (c_ L):=aq;clear aq a7 hlo hge g
 refine tV 4 38 [.slice et L.length b8] (rc x e ho go (.slice et L.length b8)) m3 fun h10 g11 zq=> ?_
 replace hu:=hu.y g11 (fun e=>by have:=sep.low 2 rfl _ e.symm;omega)
 replace m3:=zq
 refine sT [] fun a hF=>qS hF<|tF 1 (Does.call (f:=102) (args:= #[.pointer (some ⟨h.size,0,none⟩),.pointer (some ⟨bu,0,none⟩)]) (by kernel_rfl) (wy _ _ x e ho go _ _ _ m3 bu on hu (by have:=hbu;omega))) ?_
 rintro _ h12 ⟨hm2,g⟩
 replace e0:=e0.grew g11 (sep.l 2)
 replace bq:=bq.k g11 (sep.ap 0 2)
 replace m6:=m6.y g11 (sep.bp 1 2)
 replace sep:=sep.up g11.size
 replace e0:=e0.grew g (sep.l 2)
 replace bq:=bq.k g (sep.ap 0 2)
 replace hu:=hu.y g (fun e=>by have:=sep.low 2 rfl _ e.symm;omega)
 replace m6:=m6.y g (sep.bp 1 2)
 replace sep:=sep.up g.size
 clear m3;have m3:=hm2;clear hm2 g
 refine sT [] fun a hF=>qS hF<|tR 0 m3<|bG 1 (rc x e on go (.slice et L.length b8)) m6 fun h13 g14 zq=> ?_
 replace hu:=hu.y g14 (fun e=>by have:=sep.low 1 rfl _ e.symm;omega)
 replace m6:=zq
 refine sT [] fun a hF=>cR<|rB m6 hF ?_
 replace e0:=e0.grew g14 (sep.l 1)
 replace bq:=bq.k g14 (sep.ap 0 1)
 exact⟨_,rfl,⟨_,_,rfl,bq,sep.low 0 rfl,e0⟩⟩
theorem tg(h:Heap)(x:RB)(e:Int)(ho go:Bool)(L:List Pl)(va:Option Addr)(vc:Nat)(hr:Row h (.slice va L.length vc) L.length 4 (c_ L))(hL:L.length ≤1099511627776):Sat Tryz.prog 100 #[.agg (rc x e ho go (.slice va L.length vc)).toArray,.func (.func 103) #[] #[]] h fun v h'=>v= .agg (rc x e ho true (.slice none 0 0)).toArray ∧Ext h h':=by
 have e0:=Ext.refl h
 have sep:Sep h.size h.size []:=Sep.nil _ _
 refine ak Tryz.func100 12 fun a hF=>qS hF<|tN 0 (pV h.size) ((rc x e ho go (.slice va L.length vc)).toArray) 95 fun h1 g2 m3=> ?_
 replace sep:=sep.nw e0.size m3
 refine tN 1 (pV h1.size) ((rc aC (0:Int) false false (.slice none 0 0)).toArray) 95 fun h4 g5 m6=> ?_
 replace e0:=e0.ext g2
 replace sep:=sep.nw e0.size m6
 refine sT [(2,pV h.size),(4,pV h1.size)] fun a hF=>qS hF ?_
 replace m3:=m3.x g5
 refine tO 1 38 m3 ?_
 replace e0:=e0.ext g5
 refine tG 2 (kS _ L va vc (hr.ext e0) hL) ?_
 rintro _ h9 ⟨et,b8,rfl,aq,hge,g⟩
 have hlo:=e0.size
 have a7:=sep
 replace e0:=e0.ext g
 replace m3:=m3.x g
 replace m6:=m6.x g
 replace sep:=sep.up g.size
 replace sep:=a7.cons (x:=et.map (fun(x:Addr)=>x.block)) g.size hlo (fun k e=>⟨hge k e,aq.lt (by rw[aj];exact e)⟩)
 have bq:Own h9 (.slice et L.length b8) 180 L.length 4 (c_ L):=aq;clear aq a7 hlo hge g
 refine tV 4 38 [.slice et L.length b8] (rc x e ho go (.slice et L.length b8)) m3 fun h10 g11 zq=> ?_
 replace m3:=zq
 refine sT [] fun a hF=>qS hF<|tF 1 (Does.call (f:=103) (args:= #[.pointer (some ⟨h.size,0,none⟩)]) (by kernel_rfl) (zC _ _ x e ho go _ _ _ m3)) ?_
 rintro _ h12 ⟨hm2,g⟩
 replace e0:=e0.grew g11 (sep.l 2)
 replace bq:=bq.k g11 (sep.ap 0 2)
 replace m6:=m6.y g11 (sep.bp 1 2)
 replace sep:=sep.up g11.size
 replace e0:=e0.grew g (sep.l 2)
 replace bq:=bq.k g (sep.ap 0 2)
 replace m6:=m6.y g (sep.bp 1 2)
 replace sep:=sep.up g.size
 clear m3;have m3:=hm2;clear hm2 g
 refine sT [] fun a hF=>qS hF<|tR 0 m3<|bG 1 (rc x e ho true (.slice none 0 0)) m6 fun h13 g14 zq=> ?_
 replace m6:=zq
 refine sT [] fun a hF=>cR<|rB m6 hF ?_
 replace e0:=e0.grew g14 (sep.l 1)
 exact⟨rfl,e0⟩
end Go.Proofs.YtegkejcglfgpmaaGreatDoor
end
section
namespace Go.Proofs.YtegkejcglfgpmaaGreatDoor
open Go Go.an Go.aT
noncomputable def b68:Code:=Tryz.f68.body.getD .skip
theorem wz(h:Heap)(x:RB)(e:Int)(ho:Bool)(L:List Pl)(va:Option Addr)(vc:Nat)(u:Int)(hu0:0≤u)(hu:u≤1099511627776):Sat Tryz.prog 68 #[.agg (rc x e ho true (.slice va L.length vc)).toArray,.int .i64 u] h fun v h'=>v= .tuple #[.agg (rc aC (0:Int) false false (.slice none 0 0)).toArray,.int .i64 213]∧Ext h h':=by
 have e0:=Ext.refl h
 have sep:Sep h.size h.size []:=Sep.nil _ _
 refine ak Tryz.func68 21 fun a hF=>qS hF<|tN 0 (pV h.size) ((rc x e ho true (.slice va L.length vc)).toArray) 95 fun h1 g2 m3=> ?_
 replace sep:=sep.nw e0.size m3
 refine tN 1 (pV h1.size) #[.int .i64 u] 3 fun h4 g5 m6=> ?_
 replace e0:=e0.ext g2
 replace sep:=sep.nw e0.size m6
 refine tN 2 (pV h4.size) ((rc aC (0:Int) false false (.slice none 0 0)).toArray) 95 fun h7 g8 m9=> ?_
 replace e0:=e0.ext g5
 replace sep:=sep.nw e0.size m9
 refine sT [(2,pV h.size),(3,pV h1.size),(4,pV h4.size)] fun a hF=>cS<|cB 0<|qS hF ?_
 replace m6:=m6.x g8
 refine tO 0 0 m6<|tX 1 (u<(0:Int))<|tO 3 0 m6<|tX 4 ((1099511627776:Int)<u)<|sT [(6,.bool false)] fun a hF=>cF 6 hF<|qS hF ?_
 replace m3:=(m3.x g5).x g8
 refine tO 1 37 m3<|sT [(14,.bool true)] fun a hF=>cT 14 hF<|qS hF<|bG 1 (rc aC (0:Int) false false (.slice none 0 0)) m9 fun h10 g11 zq=> ?_
 replace m9:=zq
 refine sT [(5,.int .i64 213)] fun a hF=>cR (yB (yT ?_))
 refine aK [.cell 4 95,.tmp 5] [.agg (rc aC (0:Int) false false (.slice none 0 0)).toArray,.int .i64 213] (.tuple #[.agg (rc aC (0:Int) false false (.slice none 0 0)).toArray,.int .i64 213]) rfl hF ⟨⟨_,rfl,Loads.blk (vs:=rc aC (0:Int) false false (.slice none 0 0)) (by kernel_rfl) m9 rfl⟩,rfl,trivial⟩ rfl ?_
 replace e0:=(e0.ext g8).grew g11 (sep.l 0)
 exact⟨rfl,e0⟩
theorem Ck(h:Heap)(x:RB)(e:Int)(ho:Bool)(L:List Pl)(va:Option Addr)(vc:Nat)(hr:Row h (.slice va L.length vc) L.length 4 (c_ L))(hL:L.length ≤1099511627776)(u:Int)(hu0:0≤u)(hu:u≤1099511627776):Sat Tryz.prog 68 #[.agg (rc x e ho false (.slice va L.length vc)).toArray,.int .i64 u] h fun v h'=>∃c,v= .tuple #[.agg (rc x (max e u) ho false c).toArray,.int .i64 0]∧n_ h h' 180 c L:=by
 have e0:=Ext.refl h
 have sep:Sep h.size h.size []:=Sep.nil _ _
 refine ak Tryz.func68 21 fun a hF=>qS hF<|tN 0 (pV h.size) ((rc x e ho false (.slice va L.length vc)).toArray) 95 fun h1 g2 m3=> ?_
 replace sep:=sep.nw e0.size m3
 refine tN 1 (pV h1.size) #[.int .i64 u] 3 fun h4 g5 m6=> ?_
 replace e0:=e0.ext g2
 replace sep:=sep.nw e0.size m6
 refine tN 2 (pV h4.size) ((rc aC (0:Int) false false (.slice none 0 0)).toArray) 95 fun h7 g8 m9=> ?_
 replace e0:=e0.ext g5
 replace sep:=sep.nw e0.size m9
 refine sT [(2,pV h.size),(3,pV h1.size),(4,pV h4.size)] fun a hF=>cS<|cB 0<|qS hF ?_
 replace m6:=m6.x g8
 refine tO 0 0 m6<|tX 1 (u<(0:Int))<|tO 3 0 m6<|tX 4 ((1099511627776:Int)<u)<|sT [(6,.bool false)] fun a hF=>cF 6 hF<|qS hF ?_
 replace m3:=(m3.x g5).x g8
 refine tO 1 37 m3<|sT [(14,.bool false)] fun a hF=>cF 14 hF<|cN<|bK<|tK<|qS hF ?_
 refine tR 0 m3 ?_
 replace e0:=e0.ext g8
 refine tG 2 (rk _ x e ho false L va vc (hr.ext e0) hL _ u m6) ?_
 rintro _ h12 ⟨_,rfl,dF,cy,rfl,aq,hge,g⟩
 have hlo:=e0.size
 have a7:=sep
 replace e0:=e0.ext g
 replace m3:=m3.x g
 replace m6:=m6.x g
 replace m9:=m9.x g
 replace sep:=sep.up g.size
 replace sep:=a7.cons (x:=dF.map (fun(x:Addr)=>x.block)) g.size hlo (fun k e=>⟨hge k e,aq.lt (by rw[aj];exact e)⟩)
 have bq:Own h12 (.slice dF L.length cy) 180 L.length 4 (c_ L):=aq;clear aq a7 hlo hge g
 refine bG 3 (rc x (max e u) ho false (.slice dF L.length cy)) m9 fun h13 g14 zq=> ?_
 replace m9:=zq
 refine sT [(5,.int .i64 0)] fun a hF=>cR<|aK [.cell 4 95,.tmp 5] [.agg (rc x (max e u) ho false (.slice dF L.length cy)).toArray,.int .i64 0] (.tuple #[.agg (rc x (max e u) ho false (.slice dF L.length cy)).toArray,.int .i64 0]) rfl hF ⟨⟨_,rfl,Loads.blk (vs:=rc x (max e u) ho false (.slice dF L.length cy)) (by kernel_rfl) m9 rfl⟩,rfl,trivial⟩ rfl ?_
 replace e0:=e0.grew g14 (sep.l 1)
 replace bq:=bq.k g14 (sep.ap 0 1)
 exact⟨_,rfl,⟨_,_,rfl,bq,sep.low 0 rfl,e0⟩⟩
noncomputable def b69:Code:=Tryz.f69.body.getD .skip
theorem wA(h:Heap)(x:RB)(e:Int)(ho:Bool)(L:List Pl)(va:Option Addr)(vc:Nat)(on:Bool):Sat Tryz.prog 69 #[.agg (rc x e ho true (.slice va L.length vc)).toArray,.bool on] h fun v h'=>v= .tuple #[.agg (rc aC (0:Int) false false (.slice none 0 0)).toArray,.int .i64 213]∧Ext h h':=by
 have e0:=Ext.refl h
 have sep:Sep h.size h.size []:=Sep.nil _ _
 refine ak Tryz.func69 12 fun a hF=>qS hF<|tN 0 (pV h.size) ((rc x e ho true (.slice va L.length vc)).toArray) 95 fun h1 g2 m3=> ?_
 replace sep:=sep.nw e0.size m3
 refine tN 1 (pV h1.size) #[.bool on] 4 fun h4 g5 m6=> ?_
 replace e0:=e0.ext g2
 replace sep:=sep.nw e0.size m6
 refine tN 2 (pV h4.size) ((rc aC (0:Int) false false (.slice none 0 0)).toArray) 95 fun h7 g8 m9=> ?_
 replace e0:=e0.ext g5
 replace sep:=sep.nw e0.size m9
 refine sT [(2,pV h.size),(3,pV h1.size),(4,pV h4.size)] fun a hF=>cS<|qS hF ?_
 replace m3:=(m3.x g5).x g8
 refine tO 1 37 m3<|sT [(7,.bool true)] fun a hF=>cT 7 hF<|qS hF<|bG 1 (rc aC (0:Int) false false (.slice none 0 0)) m9 fun h10 g11 zq=> ?_
 replace m9:=zq
 refine sT [(5,.int .i64 213)] fun a hF=>cR (yT ?_)
 refine aK [.cell 4 95,.tmp 5] [.agg (rc aC (0:Int) false false (.slice none 0 0)).toArray,.int .i64 213] (.tuple #[.agg (rc aC (0:Int) false false (.slice none 0 0)).toArray,.int .i64 213]) rfl hF ⟨⟨_,rfl,Loads.blk (vs:=rc aC (0:Int) false false (.slice none 0 0)) (by kernel_rfl) m9 rfl⟩,rfl,trivial⟩ rfl ?_
 replace e0:=(e0.ext g8).grew g11 (sep.l 0)
 exact⟨rfl,e0⟩
theorem Cl(h:Heap)(x:RB)(e:Int)(ho:Bool)(L:List Pl)(va:Option Addr)(vc:Nat)(hr:Row h (.slice va L.length vc) L.length 4 (c_ L))(hL:L.length ≤1099511627776)(on:Bool):Sat Tryz.prog 69 #[.agg (rc x e ho false (.slice va L.length vc)).toArray,.bool on] h fun v h'=>∃c,v= .tuple #[.agg (rc x e on false c).toArray,.int .i64 0]∧n_ h h' 180 c L:=by
 have e0:=Ext.refl h
 have sep:Sep h.size h.size []:=Sep.nil _ _
 refine ak Tryz.func69 12 fun a hF=>qS hF<|tN 0 (pV h.size) ((rc x e ho false (.slice va L.length vc)).toArray) 95 fun h1 g2 m3=> ?_
 replace sep:=sep.nw e0.size m3
 refine tN 1 (pV h1.size) #[.bool on] 4 fun h4 g5 m6=> ?_
 replace e0:=e0.ext g2
 replace sep:=sep.nw e0.size m6
 refine tN 2 (pV h4.size) ((rc aC (0:Int) false false (.slice none 0 0)).toArray) 95 fun h7 g8 m9=> ?_
 replace e0:=e0.ext g5
 replace sep:=sep.nw e0.size m9
 refine sT [(2,pV h.size),(3,pV h1.size),(4,pV h4.size)] fun a hF=>cS<|qS hF ?_
 replace m3:=(m3.x g5).x g8
 refine tO 1 37 m3<|sT [(7,.bool false)] fun a hF=>cF 7 hF<|cN<|tK<|qS hF<|tR 0 m3 ?_
 replace e0:=e0.ext g8
 replace m6:=m6.x g8
 refine tG 2 (rl _ x e ho false L va vc (hr.ext e0) hL _ on m6) ?_
 rintro _ h12 ⟨_,rfl,dF,cy,rfl,aq,hge,g⟩
 have hlo:=e0.size
 have a7:=sep
 replace e0:=e0.ext g
 replace m3:=m3.x g
 replace m6:=m6.x g
 replace m9:=m9.x g
 replace sep:=sep.up g.size
 replace sep:=a7.cons (x:=dF.map (fun(x:Addr)=>x.block)) g.size hlo (fun k e=>⟨hge k e,aq.lt (by rw[aj];exact e)⟩)
 have bq:Own h12 (.slice dF L.length cy) 180 L.length 4 (c_ L):=aq;clear aq a7 hlo hge g
 refine bG 3 (rc x e on false (.slice dF L.length cy)) m9 fun h13 g14 zq=> ?_
 replace m9:=zq
 refine sT [(5,.int .i64 0)] fun a hF=>cR<|aK [.cell 4 95,.tmp 5] [.agg (rc x e on false (.slice dF L.length cy)).toArray,.int .i64 0] (.tuple #[.agg (rc x e on false (.slice dF L.length cy)).toArray,.int .i64 0]) rfl hF ⟨⟨_,rfl,Loads.blk (vs:=rc x e on false (.slice dF L.length cy)) (by kernel_rfl) m9 rfl⟩,rfl,trivial⟩ rfl ?_
 replace e0:=e0.grew g14 (sep.l 1)
 replace bq:=bq.k g14 (sep.ap 0 1)
 exact⟨_,rfl,⟨_,_,rfl,bq,sep.low 0 rfl,e0⟩⟩
noncomputable def b70:Code:=Tryz.f70.body.getD .skip
theorem rm(h:Heap)(x:RB)(e:Int)(ho:Bool)(L:List Pl)(va:Option Addr)(vc:Nat)(u:Int):Sat Tryz.prog 70 #[.agg (rc x e ho true (.slice va L.length vc)).toArray,.int .i64 u] h fun v h'=>v= .tuple #[.agg (rc aC (0:Int) false false (.slice none 0 0)).toArray,.int .i64 213]∧Ext h h':=by
 have e0:=Ext.refl h
 have sep:Sep h.size h.size []:=Sep.nil _ _
 refine ak Tryz.func70 22 fun a hF=>qS hF<|tN 0 (pV h.size) ((rc x e ho true (.slice va L.length vc)).toArray) 95 fun h1 g2 m3=> ?_
 replace sep:=sep.nw e0.size m3
 refine tN 1 (pV h1.size) ((rc aC (0:Int) false false (.slice none 0 0)).toArray) 95 fun h4 g5 m6=> ?_
 replace e0:=e0.ext g2
 replace sep:=sep.nw e0.size m6
 refine sT [(2,pV h.size),(4,pV h1.size)] fun a hF=>cS<|cB 0<|qS hF ?_
 replace m3:=m3.x g5
 refine tO 1 37 m3<|sT [(6,.bool true)] fun a hF=>cT 6 hF<|qS hF<|bG 1 (rc aC (0:Int) false false (.slice none 0 0)) m6 fun h7 g8 zq=> ?_
 replace m6:=zq
 refine sT [(5,.int .i64 213)] fun a hF=>cR (yB (yT ?_))
 refine aK [.cell 4 95,.tmp 5] [.agg (rc aC (0:Int) false false (.slice none 0 0)).toArray,.int .i64 213] (.tuple #[.agg (rc aC (0:Int) false false (.slice none 0 0)).toArray,.int .i64 213]) rfl hF ⟨⟨_,rfl,Loads.blk (vs:=rc aC (0:Int) false false (.slice none 0 0)) (by kernel_rfl) m6 rfl⟩,rfl,trivial⟩ rfl ?_
 replace e0:=(e0.ext g5).grew g8 (sep.l 0)
 exact⟨rfl,e0⟩
theorem rn(h:Heap)(x:RB)(e:Int) (L:List Pl)(va:Option Addr)(vc:Nat)(u:Int):Sat Tryz.prog 70 #[.agg (rc x e true false (.slice va L.length vc)).toArray,.int .i64 u] h fun v h'=>v= .tuple #[.agg (rc aC (0:Int) false false (.slice none 0 0)).toArray,.int .i64 214]∧Ext h h':=by
 have e0:=Ext.refl h
 have sep:Sep h.size h.size []:=Sep.nil _ _
 refine ak Tryz.func70 22 fun a hF=>qS hF<|tN 0 (pV h.size) ((rc x e true false (.slice va L.length vc)).toArray) 95 fun h1 g2 m3=> ?_
 replace sep:=sep.nw e0.size m3
 refine tN 1 (pV h1.size) ((rc aC (0:Int) false false (.slice none 0 0)).toArray) 95 fun h4 g5 m6=> ?_
 replace e0:=e0.ext g2
 replace sep:=sep.nw e0.size m6
 refine sT [(2,pV h.size),(4,pV h1.size)] fun a hF=>cS<|cB 0<|qS hF ?_
 replace m3:=m3.x g5
 refine tO 1 37 m3<|sT [(6,.bool false)] fun a hF=>cF 6 hF<|qS hF<|tO 1 36 m3<|sT [(10,.bool true)] fun a hF=>cT 10 hF ?_
 refine qS hF<|bG 1 (rc aC (0:Int) false false (.slice none 0 0)) m6 fun h7 g8 zq=> ?_
 replace m6:=zq
 refine sT [(5,.int .i64 214)] fun a hF=>cR (yB (yT ?_))
 refine aK [.cell 4 95,.tmp 5] [.agg (rc aC (0:Int) false false (.slice none 0 0)).toArray,.int .i64 214] (.tuple #[.agg (rc aC (0:Int) false false (.slice none 0 0)).toArray,.int .i64 214]) rfl hF ⟨⟨_,rfl,Loads.blk (vs:=rc aC (0:Int) false false (.slice none 0 0)) (by kernel_rfl) m6 rfl⟩,rfl,trivial⟩ rfl ?_
 replace e0:=(e0.ext g5).grew g8 (sep.l 0)
 exact⟨rfl,e0⟩
theorem rp(h:Heap)(x:RB)(e:Int) (L:List Pl)(va:Option Addr)(vc:Nat)(u:Int)(hu:u<e):Sat Tryz.prog 70 #[.agg (rc x e false false (.slice va L.length vc)).toArray,.int .i64 u] h fun v h'=>v= .tuple #[.agg (rc aC (0:Int) false false (.slice none 0 0)).toArray,.int .i64 214]∧Ext h h':=by
 have e0:=Ext.refl h
 have sep:Sep h.size h.size []:=Sep.nil _ _
 refine ak Tryz.func70 22 fun a hF=>qS hF<|tN 0 (pV h.size) ((rc x e false false (.slice va L.length vc)).toArray) 95 fun h1 g2 m3=> ?_
 replace sep:=sep.nw e0.size m3
 refine tN 1 (pV h1.size) ((rc aC (0:Int) false false (.slice none 0 0)).toArray) 95 fun h4 g5 m6=> ?_
 replace e0:=e0.ext g2
 replace sep:=sep.nw e0.size m6
 refine sT [(2,pV h.size),(4,pV h1.size)] fun a hF=>cS<|cB 0<|qS hF ?_
 replace m3:=m3.x g5
 refine tO 1 37 m3<|sT [(6,.bool false)] fun a hF=>cF 6 hF<|qS hF<|tO 1 36 m3<|tO 4 35 m3<|tT 6 (u<e) ?_
 refine sT [(10,.bool true)] fun a hF=>cT 10 hF<|qS hF<|bG 1 (rc aC (0:Int) false false (.slice none 0 0)) m6 fun h7 g8 zq=> ?_
 replace m6:=zq
 refine sT [(5,.int .i64 214)] fun a hF=>cR (yB (yT ?_))
 refine aK [.cell 4 95,.tmp 5] [.agg (rc aC (0:Int) false false (.slice none 0 0)).toArray,.int .i64 214] (.tuple #[.agg (rc aC (0:Int) false false (.slice none 0 0)).toArray,.int .i64 214]) rfl hF ⟨⟨_,rfl,Loads.blk (vs:=rc aC (0:Int) false false (.slice none 0 0)) (by kernel_rfl) m6 rfl⟩,rfl,trivial⟩ rfl ?_
 replace e0:=(e0.ext g5).grew g8 (sep.l 0)
 exact⟨rfl,e0⟩
theorem zD(h:Heap)(x:RB)(e:Int) (L:List Pl)(va:Option Addr)(vc:Nat)(hr:Row h (.slice va L.length vc) L.length 4 (c_ L))(hL:L.length ≤1099511627776)(u:Int)(hu:e≤u):Sat Tryz.prog 70 #[.agg (rc x e false false (.slice va L.length vc)).toArray,.int .i64 u] h fun v h'=>v= .tuple #[.agg (rc x e false true (.slice none 0 0)).toArray,.int .i64 0]∧Ext h h':=by
 have e0:=Ext.refl h
 have sep:Sep h.size h.size []:=Sep.nil _ _
 refine ak Tryz.func70 22 fun a hF=>qS hF<|tN 0 (pV h.size) ((rc x e false false (.slice va L.length vc)).toArray) 95 fun h1 g2 m3=> ?_
 replace sep:=sep.nw e0.size m3
 refine tN 1 (pV h1.size) ((rc aC (0:Int) false false (.slice none 0 0)).toArray) 95 fun h4 g5 m6=> ?_
 replace e0:=e0.ext g2
 replace sep:=sep.nw e0.size m6
 refine sT [(2,pV h.size),(4,pV h1.size)] fun a hF=>cS<|cB 0<|qS hF ?_
 replace m3:=m3.x g5
 refine tO 1 37 m3<|sT [(6,.bool false)] fun a hF=>cF 6 hF<|qS hF<|tO 1 36 m3<|tO 4 35 m3<|tX 6 (u<e) ?_
 refine sT [(10,.bool false)] fun a hF=>cF 10 hF<|cN<|bK<|tK<|qS hF<|tR 0 m3 ?_
 replace e0:=e0.ext g5
 refine tG 1 (tg _ x e false false L va vc (hr.ext e0) hL) ?_
 rintro _ h8 ⟨rfl,g7⟩
 replace m6:=m6.x g7
 refine bG 2 (rc x e false true (.slice none 0 0)) m6 fun h9 g10 zq=> ?_
 replace m6:=zq
 refine sT [(5,.int .i64 0)] fun a hF=>cR<|aK [.cell 4 95,.tmp 5] [.agg (rc x e false true (.slice none 0 0)).toArray,.int .i64 0] (.tuple #[.agg (rc x e false true (.slice none 0 0)).toArray,.int .i64 0]) rfl hF ⟨⟨_,rfl,Loads.blk (vs:=rc x e false true (.slice none 0 0)) (by kernel_rfl) m6 rfl⟩,rfl,trivial⟩ rfl ?_
 replace e0:=(e0.ext g7).grew g10 (sep.l 0)
 exact⟨rfl,e0⟩
end Go.Proofs.YtegkejcglfgpmaaGreatDoor
end
section
namespace Go.Proofs.YtegkejcglfgpmaaGreatDoor
open Go Go.an Go.aT
noncomputable def b64:Code:=Tryz.f64.body.getD .skip
theorem wB(h:Heap):Sat Tryz.prog 64 #[.slice none 0 0] h fun v h'=>∃ad cap,v= .slice ad 0 cap∧Own h' (.slice ad 0 cap) 5 0 1 []∧(∀k,ad.map (fun(x:Addr)=>x.block)=some k→h.size ≤k)∧Ext h h':=by
 refine ak Tryz.func64 8 fun a hF=>qP [] hF fun a hF=>cS<|qP [(4,.bool true)] hF fun a hF=>cT 4 hF<|qP [(2,.slice none 0 0)] hF fun a hF=>cR (yT ?_)
 exact rT 2 (.slice none 0 0) hF<|⟨none,0,rfl,Own.nil _ _ _,(fun k e=>by cases e),Ext.refl h⟩
theorem th(h:Heap)(l:List UInt8)(n:Nat)(aa:Addr)(vc:Nat)(hr:Row h (.slice (some aa) n vc) n 1 (l.map bv))(hn:n≤1099511627776):Sat Tryz.prog 64 #[.slice (some aa) n vc] h fun v h'=>∃ad cap,v= .slice ad n cap∧Own h' (.slice ad n cap) 5 n 1 (l.map bv)∧(∀k,ad.map (fun(x:Addr)=>x.block)=some k→h.size ≤k)∧Ext h h':=by
 have e0:=Ext.refl h
 have sep:Sep h.size h.size []:=Sep.nil _ _
 refine ak Tryz.func64 8 fun a hF=>qP [] hF fun a hF=>cS<|qP [(4,.bool false)] hF fun a hF=>cF 4 hF<|cN<|tK ?_
 refine qS hF<|tN 0 (.slice (some ⟨h.size,0,none⟩) 0 0) #[] 5 fun h1 g2 m3=> ?_
 replace sep:=sep.nw e0.size m3
 have aA:Own h1 (.slice (some ⟨h.size,0,none⟩) 0 0) 5 ([]:List UInt8).length 1 (([]:List UInt8).map bv):=Own.empty 1 m3
 replace sep:Sep h.size h1.size [(some ⟨h.size,0,none⟩:Option Addr).map (·.block)]:=sep
 replace e0:=e0.ext g2
 replace hr:=hr.ext g2
 clear m3
 refine tP 2 n 1 (l.map bv) aA hr (aI _) (fun dH cap5 h6 aA g7 hb8=> ?_)
 clear hr
 have s9:=sep
 replace sep:=sep.sa g7 0 hb8 aA e0.size;clear hb8
 refine sT [(2,.slice dH n cap5)] fun a hF=>cR<|rT 2 (.slice dH n cap5) hF ?_
 replace e0:=e0.grew g7 (s9.l 0)
 exact⟨_,_,rfl,aA,sep.low 0 rfl,e0⟩
theorem eV(h:Heap)(l:List UInt8)(n:Nat)(va:Option Addr)(vc:Nat)(hr:Row h (.slice va n vc) n 1 (l.map bv))(hn:n≤1099511627776):Sat Tryz.prog 64 #[.slice va n vc] h fun v h'=>∃ad cap,v= .slice ad n cap∧Own h' (.slice ad n cap) 5 n 1 (l.map bv)∧(∀k,ad.map (fun(x:Addr)=>x.block)=some k→h.size ≤k)∧Ext h h':=by
 cases va with
 | none =>
  rcases hr.2 with⟨e,e1⟩|⟨a,cap,e,_⟩
  ·simp only[Value.slice.injEq,true_and] at e
   obtain⟨rfl,rfl⟩:=e
   obtain rfl:l=[]:=List.eq_nil_of_length_eq_zero (by have:=hr.1;simpa using this)
   exact wB h
  ·cases e
 |some aa=>exact th h l n aa vc hr hn
noncomputable def b44:Code:=Tryz.f44.body.getD .skip
theorem wC(h:Heap):Sat Tryz.prog 44 #[.slice none 0 0] h fun v h'=>∃ad cap,v= .slice ad 0 cap∧Own h' (.slice ad 0 cap) 32 0 1 []∧(∀k,ad.map (fun(x:Addr)=>x.block)=some k→h.size ≤k)∧Ext h h':=by
 refine ak Tryz.func44 8 fun a hF=>qP [] hF fun a hF=>cS<|qP [(4,.bool true)] hF fun a hF=>cT 4 hF<|qP [(2,.slice none 0 0)] hF fun a hF=>cR (yT ?_)
 exact rT 2 (.slice none 0 0) hF<|⟨none,0,rfl,Own.nil _ _ _,(fun k e=>by cases e),Ext.refl h⟩
theorem tj(h:Heap)(l:List Value)(n:Nat)(aa:Addr)(vc:Nat)(hr:Row h (.slice (some aa) n vc) n 1 l)(hn:n≤1099511627776)(hone:∀u∈l,u.oneCell' =true):Sat Tryz.prog 44 #[.slice (some aa) n vc] h fun v h'=>∃ad cap,v= .slice ad n cap∧Own h' (.slice ad n cap) 32 n 1 l∧(∀k,ad.map (fun(x:Addr)=>x.block)=some k→h.size ≤k)∧Ext h h':=by
 have e0:=Ext.refl h
 have sep:Sep h.size h.size []:=Sep.nil _ _
 refine ak Tryz.func44 8 fun a hF=>qP [] hF fun a hF=>cS<|qP [(4,.bool false)] hF fun a hF=>cF 4 hF<|cN<|tK ?_
 refine qS hF<|tN 0 (.slice (some ⟨h.size,0,none⟩) 0 0) #[] 32 fun h1 g2 m3=> ?_
 replace sep:=sep.nw e0.size m3
 have aA:Own h1 (.slice (some ⟨h.size,0,none⟩) 0 0) 32 ([]:List Value).length 1 ([]:List Value):=Own.empty 1 m3
 replace sep:Sep h.size h1.size [(some ⟨h.size,0,none⟩:Option Addr).map (·.block)]:=sep
 replace e0:=e0.ext g2
 replace hr:=hr.ext g2
 clear m3
 refine tP 2 n 24 l aA hr hone (fun dH cap5 h6 aA g7 hb8=> ?_) (ys:=l)
 clear hr
 have s9:=sep
 replace sep:=sep.sa g7 0 hb8 aA e0.size;clear hb8
 refine sT [(2,.slice dH n cap5)] fun a hF=>cR<|rT 2 (.slice dH n cap5) hF ?_
 replace e0:=e0.grew g7 (s9.l 0)
 exact⟨_,_,rfl,aA,sep.low 0 rfl,e0⟩
theorem nj(h:Heap)(l:List Value)(n:Nat)(va:Option Addr)(vc:Nat)(hr:Row h (.slice va n vc) n 1 l)(hn:n≤1099511627776)(hone:∀u∈l,u.oneCell' =true):Sat Tryz.prog 44 #[.slice va n vc] h fun v h'=>∃ad cap,v= .slice ad n cap∧Own h' (.slice ad n cap) 32 n 1 l∧(∀k,ad.map (fun(x:Addr)=>x.block)=some k→h.size ≤k)∧Ext h h':=by
 cases va with
 | none =>
  rcases hr.2 with⟨e,e1⟩|⟨a,cap,e,_⟩
  ·simp only[Value.slice.injEq,true_and] at e
   obtain⟨rfl,rfl⟩:=e
   obtain rfl:l=[]:=List.eq_nil_of_length_eq_zero (by have:=hr.1;simpa using this)
   exact wC h
  ·cases e
 |some aa=>exact tj h l n aa vc hr hn hone
noncomputable def b66:Code:=Tryz.f66.body.getD .skip
theorem Hq{P:Program}{ops:Array Oper}{base:Nat→Value}{vals:aV}{i:Nat}{va:Option Addr}{n vc sz:Nat}(h:Heap)(hx:DY P ops base vals i=some (va,n,vc,sz,none,some ((n:Nat):Int),some ((n:Nat):Int)))(hc:n≤vc):Go.an.Calm P ops base vals i h (.slice va n n):=by
 have:=Go.an.Calm.slice 0 n n hx (.inr ⟨rfl,hc,rfl⟩) (.inr rfl) (.inl ⟨rfl,rfl⟩) (Nat.zero_le _) (Nat.le_refl _) h
 simp only[Nat.zero_mul,Nat.sub_zero] at this
 have e:(if n=0 then va else va.map (fun(x:Addr)=>x.add 0))=va:=by
  have ha:∀x:Addr,x.add 0=x:=fun x=>by simp[Addr.add]
  split
  ·rfl
  ·cases va<;>simp[ha]
 rwa [e] at this
theorem zE(h:Heap)(n:Nat)(va:Option Addr)(vc:Nat)(hc:n≤vc):Sat Tryz.prog 66 #[.slice va n vc] h fun v h'=>v= .slice va n n∧h'=h:=by
 refine ak Tryz.func66 9 fun a hF=>qP [] hF fun a hF=>qS hF<|tC 5 (.slice va n n) ((fun h=>Hq (sz:=1) h (by kernel_rfl) hc) _)<|sT [(2,.slice va n n)] fun a hF=>cR<|rT 2 (.slice va n n) hF ?_
 exact⟨rfl,rfl⟩
noncomputable def b98:Code:=Tryz.f98.body.getD .skip
theorem tm(h:Heap)(n m:Nat)(hn:n≤1099511627776):Sat Tryz.prog 98 #[.int .i64 ((n:Nat):Int),.int .i64 ((m:Nat):Int)] h fun v h'=>v= .bool (decide (n≤m))∧h'=h:=by
 refine ak Tryz.func98 12 fun a hF=>qP [] hF fun a hF=>cS ?_
 rcases Nat.lt_or_ge m n with hm|hm
 ·refine rS hF<|tT 1 ((0:Int)≤((n:Nat):Int))<|tX 5 (((n:Nat):Int)≤((m:Nat):Int))<|sE [(4,.bool false)] fun a hF=>tK<|cR<|rT 4 (.bool false) hF ?_
  exact⟨congrArg Value.bool (by simp;omega),rfl⟩
 ·refine rS hF<|tT 1 ((0:Int)≤((n:Nat):Int))<|tT 5 (((n:Nat):Int)≤((m:Nat):Int))<|sE [(4,.bool true)] fun a hF=>tK<|cR<|rT 4 (.bool true) hF ?_
  exact⟨congrArg Value.bool (by simp;omega),rfl⟩
noncomputable def b62:Code:=Tryz.f62.body.getD .skip
theorem zF(c:UInt8):kL c=decide (97≤c.toNat ∧c.toNat ≤122∨48≤c.toNat ∧c.toNat ≤57∨c.toNat =45∨c.toNat =46):=by
 unfold kL
 by_cases h1:97≤c.toNat ∧c.toNat ≤122<;>by_cases h2:48≤c.toNat ∧c.toNat ≤57<;>by_cases h3:c.toNat =45<;>by_cases h4:c.toNat =46<;>simp_all<;>omega
theorem rq(h:Heap)(s:ByteArray)(hsz:s.size ≤9223372036854775807):Sat Tryz.prog 62 #[.string s] h fun v h'=>v= .bool (aP s)∧h'=h:=by
 refine ak Tryz.func62 44 fun a hF=>qP [] hF fun a hF=>cS<|qP [(6,nV s.size),(7,.int .i64 0)] hF fun a hF=>cB 0<|cL (fun m a h'=>∃i:Nat,m=s.size - i∧(h'=h)∧(i≤s.size)∧((s.data.toList.take i).all kL=true)∧(Fr a 44 [(0,.string s),(6,.int .i64 ((s.size :Nat):Int)),(7,.int .i64 ((i:Nat):Int))])) (s.size - 0) ⟨0,rfl,rfl,(by omega),rfl,hF.to⟩ ?_
 clear hF a
 rintro m a h1 ⟨i,rfl,hh,hi,hall,hF⟩
 refine qP [(8,.bool (decide (((i:Nat):Int)<((s.size :Nat):Int))))] hF fun a hF=>cS<|cJ 8 hF (fun hc2=> ?_) fun hc2=> ?_
 ·have hia:i<s.size :=by omega
  obtain⟨c,hc⟩:=yQ hia
  have hck:kL c=decide (97≤c.toNat ∧c.toNat ≤122∨48≤c.toNat ∧c.toNat ≤57∨c.toNat =45∨c.toNat =46):=zF c
  refine cN<|tK<|cS<|cB 1<|qP [(3,nV i)] hF fun a hF=>qS hF<|tC 2 (.int .u8 (c.toNat :Int)) ((fun h=>Calm.strIdx (by kernel_rfl) hc h) _) ?_
  refine sT [(4,.int .u8 (c.toNat :Int))] fun a hF=>cS ?_
  rcases(by omega:(97≤c.toNat ∧c.toNat ≤122)∨(48≤c.toNat ∧c.toNat ≤57)∨c.toNat =45∨c.toNat =46∨(122<c.toNat)∨(57<c.toNat ∧c.toNat <97)∨(c.toNat <48∧c.toNat ≠45∧c.toNat ≠46)) with hq|hq|hq|hq|hq|hq|hq
  ·have hok:kL c=true:=by rw[hck];simp<;>omega
   have ef:=eb hall hc hok
   refine rS hF<|tX 1 ((c.toNat :Int)<(97:Int))<|tX 4 ((122:Int)<(c.toNat :Int))<|sE [(34,.bool false)] fun a hF=>tK<|cF 34 hF<|cN ?_
   refine bK<|tK<|rS hF<|tA 0 i 1<|sE [(7,nV (i+1))] fun a hF=> ?_
   show ∃m',m'<_∧_
   refine⟨_,?_,(i+1),rfl,hh,(by omega),ef,hF.to⟩
   omega
  ·have hok:kL c=true:=by rw[hck];simp<;>omega
   have ef:=eb hall hc hok
   refine rS hF<|tT 1 ((c.toNat :Int)<(97:Int))<|tX 8 ((c.toNat :Int)<(48:Int))<|tX 11 ((57:Int)<(c.toNat :Int))<|sE [(34,.bool false)] fun a hF=>tK<|cF 34 hF ?_
   refine cN<|bK<|tK<|rS hF<|tA 0 i 1<|sE [(7,nV (i+1))] fun a hF=> ?_
   show ∃m',m'<_∧_
   refine⟨_,?_,(i+1),rfl,hh,(by omega),ef,hF.to⟩
   omega
  ·have hok:kL c=true:=by rw[hck];simp<;>omega
   have ef:=eb hall hc hok
   refine rS hF<|tT 1 ((c.toNat :Int)<(97:Int))<|tT 8 ((c.toNat :Int)<(48:Int))<|uF 16 (c.toNat :Int) 45<|sE [(34,.bool false)] fun a hF=>tK<|cF 34 hF ?_
   refine cN<|bK<|tK<|rS hF<|tA 0 i 1<|sE [(7,nV (i+1))] fun a hF=> ?_
   show ∃m',m'<_∧_
   refine⟨_,?_,(i+1),rfl,hh,(by omega),ef,hF.to⟩
   omega
  ·have hok:kL c=true:=by rw[hck];simp<;>omega
   have ef:=eb hall hc hok
   refine rS hF<|tT 1 ((c.toNat :Int)<(97:Int))<|tT 8 ((c.toNat :Int)<(48:Int))<|uT 16 (c.toNat :Int) 45<|uF 20 (c.toNat :Int) 46<|sE [(34,.bool false)] fun a hF=>tK ?_
   refine cF 34 hF<|cN<|bK<|tK<|rS hF<|tA 0 i 1<|sE [(7,nV (i+1))] fun a hF=> ?_
   show ∃m',m'<_∧_
   refine⟨_,?_,(i+1),rfl,hh,(by omega),ef,hF.to⟩
   omega
  ·have hok:kL c=false:=by rw[hck];simp<;>omega
   have hno:=iA hc hok
   refine rS hF<|tX 1 ((c.toNat :Int)<(97:Int))<|tT 4 ((122:Int)<(c.toNat :Int))<|tX 8 ((c.toNat :Int)<(48:Int))<|tT 11 ((57:Int)<(c.toNat :Int))<|uT 16 (c.toNat :Int) 45<|uT 20 (c.toNat :Int) 46 ?_
   refine sE [(34,.bool true)] fun a hF=>tK<|cT 34 hF<|qP [(2,.bool false)] hF fun a hF=>cR (yB (yT (yT (yB (yT ?_)))))
   exact rT 2 (.bool false) hF<|⟨congrArg Value.bool (by first|exact hno.symm | (unfold aP;rw[hall];simp<;>omega)),hh⟩
  ·have hok:kL c=false:=by rw[hck];simp<;>omega
   have hno:=iA hc hok
   refine rS hF<|tT 1 ((c.toNat :Int)<(97:Int))<|tX 8 ((c.toNat :Int)<(48:Int))<|tT 11 ((57:Int)<(c.toNat :Int))<|uT 16 (c.toNat :Int) 45<|uT 20 (c.toNat :Int) 46<|sE [(34,.bool true)] fun a hF=> ?_
   refine tK<|cT 34 hF<|qP [(2,.bool false)] hF fun a hF=>cR (yB (yT (yT (yB (yT ?_)))))
   exact rT 2 (.bool false) hF<|⟨congrArg Value.bool (by first|exact hno.symm | (unfold aP;rw[hall];simp<;>omega)),hh⟩
  ·have hok:kL c=false:=by rw[hck];simp<;>omega
   have hno:=iA hc hok
   refine rS hF<|tT 1 ((c.toNat :Int)<(97:Int))<|tT 8 ((c.toNat :Int)<(48:Int))<|uT 16 (c.toNat :Int) 45<|uT 20 (c.toNat :Int) 46<|sE [(34,.bool true)] fun a hF=>tK ?_
   refine cT 34 hF<|qP [(2,.bool false)] hF fun a hF=>cR (yB (yT (yT (yB (yT ?_)))))
   exact rT 2 (.bool false) hF<|⟨congrArg Value.bool (by first|exact hno.symm | (unfold aP;rw[hall];simp<;>omega)),hh⟩
 ·obtain rfl:i=s.size :=by omega
  rw[←fa,List.take_length] at hall
  refine cX 0 (xT (xT (xB ?_)))
  refine tK<|cS ?_
  rcases(by omega:s.size =0∨(0<s.size ∧s.size ≤16)∨16<s.size) with hq|hq|hq
  ·exact rS hF<|tX 2 ((0:Int)<((s.size :Nat):Int))<|sE [(2,.bool false)] fun a hF=>tK<|cR<|rT 2 (.bool false) hF<|⟨congrArg Value.bool (by first|exact hno.symm | (unfold aP;rw[hall];simp<;>omega)),hh⟩
  ·refine rS hF<|tT 2 ((0:Int)<((s.size :Nat):Int))<|tT 6 (((s.size :Nat):Int)≤(16:Int))<|sE [(2,.bool true)] fun a hF=>tK<|cR<|rT 2 (.bool true) hF ?_
   exact⟨congrArg Value.bool (by first|exact hno.symm | (unfold aP;rw[hall];simp<;>omega)),hh⟩
  ·refine rS hF<|tT 2 ((0:Int)<((s.size :Nat):Int))<|tX 6 (((s.size :Nat):Int)≤(16:Int))<|sE [(2,.bool false)] fun a hF=>tK<|cR<|rT 2 (.bool false) hF ?_
   exact⟨congrArg Value.bool (by first|exact hno.symm | (unfold aP;rw[hall];simp<;>omega)),hh⟩
end Go.Proofs.YtegkejcglfgpmaaGreatDoor
end
section
namespace Go.an
open Go Go.aT
section
variable {P:Program} {ops:Array Oper} {base:Nat→Value} {vals:aV} {i:Nat} {h:Heap}
def NK (P : Program) (e : Operand → Value) (o : Oper) : Option (TypeId × ByteArray) :=
  match o.op with
  | .convert s d x => match e x, P.underlying s, P.underlying d with
    | .string b, some .string, some (.slice el) => match P.underlying el with
      |some (.int .u8)=>some (el,b)
      |_=>none
    |_,_,_=>none
  |_=>none
def Lh(P:Program)(ops:Array Oper)(base:Nat→Value)(vals:aV)(i:Nat):=(jG ops base vals i).bind (NK P (env ops base vals i))
theorem Does.bytesOf{el:TypeId}{s:ByteArray}(hx:Lh P ops base vals i=some (el,s)):
    Does P ops base vals i h fun v' h'=>∃cap,v'= .slice (some ⟨h.size,0,none⟩) s.size cap∧Row h' (.slice (some ⟨h.size,0,none⟩) s.size cap) s.size 1 (s.data.toList.map bv)∧Ext h h':=by
  refine aW hx fun o ho w hw=> ?_
  subst hw
  unfold NK at ho
  cases hop:o.op with
  | convert a d x =>
    simp only[hop] at ho
    split at ho<;>first| (cases ho;done)|skip
    rename_i b E3 h1 h2 h3
    cases h4:P.underlying E3 with
    |none=>simp[h4] at ho
    | some de =>
      cases de<;>simp only[h4] at ho<;>first| (cases ho;done)|skip
      rename_i k
      cases k<;>simp only[Option.some.injEq,Prod.mk.injEq] at ho<;>first| (cases ho;done)|skip
      obtain⟨rfl,rfl⟩:=ho
      have hrun:(execOp (env ops base vals i) o).run P w= .ok (.value (.slice (some ⟨w.heap.size,0,none⟩) b.size (grownCap w b.size 0 E3))) (Lib.bytesWorld w E3 b):=by
        unfold execOp
        simp[hop,h1,Lib.run_convert_string_bytes w a d E3 b h2 h3 h4]
      rw[hrun]
      refine⟨⟨rfl,rfl,rfl⟩,_,rfl,⟨by rw[List.length_map,Nat.mul_one];rfl, .inr ⟨_,_,rfl,grownCap_ge _ _ _ _,fun j u hu=> ?_⟩⟩,⟨by rw[Lib.bytesWorld_size];omega,fun k hk _=>Lib.bytesWorld_at_old w E3 b k hk⟩⟩
      rw[List.getElem?_map] at hu
      cases hj:b.data.toList[j]? with
      |none=>rw[hj] at hu;cases hu
      | some c =>
        rw[hj] at hu
        simp only[Option.map_some,Option.some.injEq] at hu
        have hlt:j<b.size :=(List.getElem?_eq_some_iff.1 hj).1
        rw[←dW (w:=Lib.bytesWorld w E3 b) rfl,add_lit,Nat.zero_add]
        rw[Lib.bytesWorld_cell w E3 b j hlt, ←hu,List.getD_eq_getElem?_getD,hj]
        rfl
  |_=>simp[hop] at ho
end
theorem Hr{n:Nat}{o x:Option Nat}(h:x=o∨∃g,x=some g∧n≤g):∀i,x=some i→o=some i∨n≤i:=fun i e=>by
  rcases h with h|⟨g,h,k⟩
  · exact .inl (h▸e)
  · rw[h] at e;cases e;exact .inr k
end Go.an
end
section
namespace Go.Proofs.YtegkejcglfgpmaaGreatDoor
open Go Go.an Go.aT
noncomputable def b27:Code:=Tryz.f27.body.getD .skip
theorem o7(h:Heap)(s:ByteArray)(hsz:s.size ≤9223372036854775807):Sat Tryz.prog 27 #[.string s] h fun v h'=>v= .bool (aP s)∧h'=h:=by
 refine ak Tryz.func27 45 fun a hF=>qP [] hF fun a hF=>cS<|cS ?_
 rcases(by omega:s.size <1∨16<s.size ∨(1≤s.size ∧s.size ≤16)) with hq|hq|hq
 ·have hno:aP s=false:=by unfold aP;rw[show(decide (0<s.size)&&decide (s.size ≤16))=false by simp<;>omega,Bool.and_false]
  refine rS hF<|tT 2 (((s.size :Nat):Int)<(1:Int))<|sE [(12,.bool true)] fun a hF=>tK<|cT 12 hF<|qP [(2,.bool false)] hF fun a hF=>cR (yT ?_)
  exact rT 2 (.bool false) hF<|⟨congrArg Value.bool hno.symm,rfl⟩
 ·have hno:aP s=false:=by unfold aP;rw[show(decide (0<s.size)&&decide (s.size ≤16))=false by simp<;>omega,Bool.and_false]
  refine rS hF<|tX 2 (((s.size :Nat):Int)<(1:Int))<|tT 6 ((16:Int)<((s.size :Nat):Int))<|sE [(12,.bool true)] fun a hF=>tK<|cT 12 hF<|qP [(2,.bool false)] hF fun a hF=> ?_
  refine cR (yT ?_)
  exact rT 2 (.bool false) hF<|⟨congrArg Value.bool hno.symm,rfl⟩
 ·refine rS hF<|tX 2 (((s.size :Nat):Int)<(1:Int))<|tX 6 ((16:Int)<((s.size :Nat):Int))<|sE [(12,.bool false)] fun a hF=>tK<|cF 12 hF<|cN ?_
  refine tK<|cS<|qP [(3,.int .i64 0)] hF fun a hF=>cB 0<|cL (fun m a h'=>∃i:Nat,m=s.size - i∧(h'=h)∧(i≤s.size)∧((s.data.toList.take i).all kL=true)∧(Fr a 45 [(0,.string s),(3,.int .i64 ((i:Nat):Int))])) (s.size - 0) ⟨0,rfl,rfl,(by omega),rfl,hF.to⟩ ?_
  clear hF a
  rintro m a h1 ⟨i,rfl,hh,hi,hall,hF⟩
  refine cS<|qP [(16,.bool (decide (((i:Nat):Int)<((s.size :Nat):Int))))] hF fun a hF=>cJ 16 hF (fun hc2=> ?_) fun hc2=> ?_
  ·have hia:i<s.size :=by omega
   obtain⟨c,hc⟩:=yQ hia
   have hck:kL c=decide (97≤c.toNat ∧c.toNat ≤122∨48≤c.toNat ∧c.toNat ≤57∨c.toNat =45∨c.toNat =46):=zF c
   refine cN<|tK<|cS<|cB 1<|qS hF<|tC 2 (.int .u8 (c.toNat :Int)) ((fun h=>Calm.strIdx (by kernel_rfl) hc h) _)<|sT [(4,.int .u8 (c.toNat :Int))] fun a hF=> ?_
   refine cS ?_
   rcases(by omega:(97≤c.toNat ∧c.toNat ≤122)∨(48≤c.toNat ∧c.toNat ≤57)∨c.toNat =45∨c.toNat =46∨(122<c.toNat)∨(57<c.toNat ∧c.toNat <97)∨(c.toNat <48∧c.toNat ≠45∧c.toNat ≠46)) with hq|hq|hq|hq|hq|hq|hq
   ·have hok:kL c=true:=by rw[hck];simp<;>omega
    have ef:=eb hall hc hok
    refine rS hF<|tT 1 ((97:Int)≤(c.toNat :Int))<|tT 4 ((c.toNat :Int)≤(122:Int))<|sE [(44,.bool false)] fun a hF=>tK<|cF 44 hF<|cN ?_
    refine bK<|tK<|rS hF<|tA 1 i 1<|sE [(3,nV (i+1))] fun a hF=> ?_
    show ∃m',m'<_∧_
    refine⟨_,?_,(i+1),rfl,hh,(by omega),ef,hF.to⟩
    omega
   ·have hok:kL c=true:=by rw[hck];simp<;>omega
    have ef:=eb hall hc hok
    refine rS hF<|tX 1 ((97:Int)≤(c.toNat :Int))<|tT 8 ((48:Int)≤(c.toNat :Int))<|tT 11 ((c.toNat :Int)≤(57:Int))<|sE [(44,.bool false)] fun a hF=>tK<|cF 44 hF ?_
    refine cN<|bK<|tK<|rS hF<|tA 1 i 1<|sE [(3,nV (i+1))] fun a hF=> ?_
    show ∃m',m'<_∧_
    refine⟨_,?_,(i+1),rfl,hh,(by omega),ef,hF.to⟩
    omega
   ·have hok:kL c=true:=by rw[hck];simp<;>omega
    have ef:=eb hall hc hok
    refine rS hF<|tX 1 ((97:Int)≤(c.toNat :Int))<|tX 8 ((48:Int)≤(c.toNat :Int))<|eT 16 (c.toNat :Int) 45<|sE [(44,.bool false)] fun a hF=>tK<|cF 44 hF ?_
    refine cN<|bK<|tK<|rS hF<|tA 1 i 1<|sE [(3,nV (i+1))] fun a hF=> ?_
    show ∃m',m'<_∧_
    refine⟨_,?_,(i+1),rfl,hh,(by omega),ef,hF.to⟩
    omega
   ·have hok:kL c=true:=by rw[hck];simp<;>omega
    have ef:=eb hall hc hok
    refine rS hF<|tX 1 ((97:Int)≤(c.toNat :Int))<|tX 8 ((48:Int)≤(c.toNat :Int))<|eF 16 (c.toNat :Int) 45<|eT 20 (c.toNat :Int) 46<|sE [(44,.bool false)] fun a hF=>tK ?_
    refine cF 44 hF<|cN<|bK<|tK<|rS hF<|tA 1 i 1<|sE [(3,nV (i+1))] fun a hF=> ?_
    show ∃m',m'<_∧_
    refine⟨_,?_,(i+1),rfl,hh,(by omega),ef,hF.to⟩
    omega
   ·have hok:kL c=false:=by rw[hck];simp<;>omega
    have hno:=iA hc hok
    refine rS hF<|tT 1 ((97:Int)≤(c.toNat :Int))<|tX 4 ((c.toNat :Int)≤(122:Int))<|tT 8 ((48:Int)≤(c.toNat :Int))<|tX 11 ((c.toNat :Int)≤(57:Int))<|eF 16 (c.toNat :Int) 45<|eF 20 (c.toNat :Int) 46 ?_
    refine sE [(44,.bool true)] fun a hF=>tK<|cT 44 hF<|qP [(2,.bool false)] hF fun a hF=>cR (yB (yT (yT (yB (yT ?_)))))
    exact rT 2 (.bool false) hF<|⟨congrArg Value.bool hno.symm,hh⟩
   ·have hok:kL c=false:=by rw[hck];simp<;>omega
    have hno:=iA hc hok
    refine rS hF<|tX 1 ((97:Int)≤(c.toNat :Int))<|tT 8 ((48:Int)≤(c.toNat :Int))<|tX 11 ((c.toNat :Int)≤(57:Int))<|eF 16 (c.toNat :Int) 45<|eF 20 (c.toNat :Int) 46<|sE [(44,.bool true)] fun a hF=> ?_
    refine tK<|cT 44 hF<|qP [(2,.bool false)] hF fun a hF=>cR (yB (yT (yT (yB (yT ?_)))))
    exact rT 2 (.bool false) hF<|⟨congrArg Value.bool hno.symm,hh⟩
   ·have hok:kL c=false:=by rw[hck];simp<;>omega
    have hno:=iA hc hok
    refine rS hF<|tX 1 ((97:Int)≤(c.toNat :Int))<|tX 8 ((48:Int)≤(c.toNat :Int))<|eF 16 (c.toNat :Int) 45<|eF 20 (c.toNat :Int) 46<|sE [(44,.bool true)] fun a hF=>tK ?_
    refine cT 44 hF<|qP [(2,.bool false)] hF fun a hF=>cR (yB (yT (yT (yB (yT ?_)))))
    exact rT 2 (.bool false) hF<|⟨congrArg Value.bool hno.symm,hh⟩
  ·obtain rfl:i=s.size :=by omega
   rw[←fa,List.take_length] at hall
   refine cX 0 (xT (xT (xB ?_)))
   exact tK<|qP [(2,.bool true)] hF fun a hF=>cR<|rT 2 (.bool true) hF<|⟨congrArg Value.bool (by unfold aP;rw[hall];simp<;>omega),hh⟩
noncomputable def b47:Code:=Tryz.f47.body.getD .skip
theorem tn(h:Heap)(l:List UInt8)(n x:Nat)(va:Option Addr)(vc:Nat)(dG:Own h (.slice va n vc) 5 n 1 (l.map bv))(hn:n≤1099511627000):Sat Tryz.prog 47 #[.slice va n vc,.int .i64 ((x:Nat):Int),.int .i64 2] h fun v h'=>∃ad cap,v= .slice ad (n+1+1) cap∧Own h' (.slice ad (n+1+1) cap) 5 (n+1+1) 1 ((l++[UInt8.ofNat (x/2^8),UInt8.ofNat x]).map bv)∧(ad.map (fun(x:Addr)=>x.block)=va.map (fun(x:Addr)=>x.block)∨∃g,ad.map (fun(x:Addr)=>x.block)=some g∧h.size ≤g)∧Gr (fun k=>va.map (fun(x:Addr)=>x.block)=some k) h h':=by
 have sep:Sep 0 h.size [va.map (·.block)]:=dG.Eu
 have g0:=Gr.refl (fun k=>va.map (fun(x:Addr)=>x.block)=some k) h
 have nm:va.map (fun(x:Addr)=>x.block)=va.map (fun(x:Addr)=>x.block)∨∃g,va.map (fun(x:Addr)=>x.block)=some g∧h.size ≤g:= .inl rfl
 refine ak Tryz.func47 23 fun a hF=>qP [] hF fun a hF=>cS<|qP [(7,.int .i64 1)] hF fun a hF=>cB 0<|cU 3<|az.step ?_
 refine cS<|qP [(11,.bool true)] hF fun a hF=>cT 11 hF<|cN<|tK<|cS<|cB 1 ?_
 refine rS hF<|t1 4 (.int .i64 ((x/2^8:Nat):Int)) (.int .i64 (Int.fdiv ((x:Nat):Int) (2^8))) (congrArg (Value.int .i64) (bV (x) 8))<|t1 5 (bv (UInt8.ofNat (x/2^8))) (.int .u8 (IntKind.u8.wrap ((x/2^8:Nat):Int))) (bB _)<|tN 6 (.slice (some ⟨h.size,0,none⟩) 1 1) #[bv (UInt8.ofNat (x/2^8))] 5 fun h1 g2 m3=> ?_
 replace sep:=sep.nw (Nat.zero_le _) m3
 replace dG:=dG.ext g2
 refine tP 7 (n+1) 1 ((l++[UInt8.ofNat (x/2^8)]).map bv) dG (Row.blk (n:=1) (sz:=1) (l:=[UInt8.ofNat (x/2^8)].map bv) m3 rfl) (aI _) (fun dH cap5 h6 dG g7 hb8=> ?_) (ys:=(([UInt8.ofNat (x/2^8)]).map bv))
 replace g0:=g0.ext g2
 have ff:=grown nm hb8 g0.1
 replace g0:=g0.grew g7 (Hr nm)
 have s9:=sep
 replace sep:=sep.sa g7 1 hb8 dG (Nat.zero_le _);clear hb8
 replace nm:=ff;clear ff
 replace m3:=m3.y g7 (s9.bp 0 1)
 clear m3
 replace sep:=sep.sub (l':=[dH.map (·.block)]) (.cons _ (.cons_cons _ (.slnil)))
 refine sE [(0,.slice dH (n+1) cap5)] fun a hF=>bK<|tK<|rP [(7,.int .i64 0)] hF fun a hF=>tK (az.step ?_)
 refine cS<|qP [(11,.bool true)] hF fun a hF=>cT 11 hF<|cN<|tK<|cS<|cB 1 ?_
 refine rS hF<|t1 4 (.int .i64 ((x/2^0:Nat):Int)) (.int .i64 (Int.fdiv ((x:Nat):Int) (2^0))) (congrArg (Value.int .i64) (bV (x) 0))<|t1 5 (bv (UInt8.ofNat (x/2^0))) (.int .u8 (IntKind.u8.wrap ((x/2^0:Nat):Int))) (bB _)<|tN 6 (.slice (some ⟨h6.size,0,none⟩) 1 1) #[bv (UInt8.ofNat (x/2^0))] 5 fun h10 g11 m12=> ?_
 replace sep:=sep.nw (Nat.zero_le _) m12
 replace dG:=dG.ext g11
 refine tP 7 ((n+1)+1) 1 (((l++[UInt8.ofNat (x/2^8)])++[UInt8.ofNat (x/2^0)]).map bv) dG (Row.blk (n:=1) (sz:=1) (l:=[UInt8.ofNat (x/2^0)].map bv) m12 rfl) (aI _) (fun dO dp h15 dG g16 jn=> ?_) (ys:=(([UInt8.ofNat (x/2^0)]).map bv))
 replace g0:=g0.ext g11
 have ff:=grown nm jn g0.1
 replace g0:=g0.grew g16 (Hr nm)
 have lU:=sep
 replace sep:=sep.sa g16 1 jn dG (Nat.zero_le _);clear jn
 replace nm:=ff;clear ff
 replace m12:=m12.y g16 (lU.bp 0 1)
 clear m12
 replace sep:=sep.sub (l':=[dO.map (·.block)]) (.cons _ (.cons_cons _ (.slnil)))
 refine sE [(0,.slice dO ((n+1)+1) dp)] fun a hF=>bK<|tK<|rP [(7,.int .i64 (-1))] hF fun a hF=>tK (az.step ?_)
 refine cS<|qP [(11,.bool false)] hF fun a hF=>cF 11 hF<|cX 0 (xT (xT (xB ?_)))
 exact tK<|qP [(6,.slice dO ((n+1)+1) dp)] hF fun a hF=>cR<|rT 6 (.slice dO ((n+1)+1) dp) hF<|⟨_,_,rfl,by simpa only[Nat.pow_zero,Nat.div_one,List.append_assoc,List.singleton_append] using dG,nm,g0⟩
theorem dQ(h:Heap)(s:ByteArray)(hs:aP s=true):Sat Tryz.prog 27 #[.string s] h fun v h'=>v= .bool true∧h'=h:=hs▸o7 h s (by have:=iB hs;omega)
theorem nq(h:Heap)(s:ByteArray)(hz:s.size ≤9223372036854775807)(hs:aP s=false):Sat Tryz.prog 27 #[.string s] h fun v h'=>v= .bool false∧h'=h:=hs▸o7 h s hz
noncomputable def b28:Code:=Tryz.f28.body.getD .skip
theorem tp(h:Heap)(s:ByteArray)(n:Nat)(l:List UInt8)(hs:aP s=true)(hn:n≤512)(zG:l.length =32):Sat Tryz.prog 28 #[.string s,.int .i64 ((n:Nat):Int),.agg (l.map bv).toArray] h fun v h'=>∃ad cap,v= .tuple #[.slice ad (dn s n l).length cap,.int .i64 0]∧Own h' (.slice ad (dn s n l).length cap) 5 (dn s n l).length 1 ((dn s n l).map bv)∧(∀k,ad.map (fun(x:Addr)=>x.block)=some k→h.size ≤k)∧Ext h h':=by
 have hsl:=iB hs
 have hsp:=qR hs
 have e0:=Ext.refl h
 have sep:Sep h.size h.size []:=Sep.nil _ _
 refine ak Tryz.func28 33 fun a hF=>qS hF<|tN 0 (pV h.size) ((l.map bv).toArray) 39 fun h1 g2 m3=> ?_
 replace sep:=sep.nw e0.size m3
 refine sT [(5,pV h.size)] fun a hF=>cS<|qS hF<|tC 1 (.bool true) (Does.call (f:=27) (args:= #[.string s]) (by kernel_rfl) (dQ _ s hs))<|tX 5 (((n:Nat):Int)<(0:Int))<|tX 9 ((512:Int)<((n:Nat):Int))<|sT [(19,.bool false)] fun a hF=> ?_
 refine cF 19 hF<|cN<|tK<|qS hF<|t1 2 (bv (UInt8.ofNat s.size)) (.int .u8 (IntKind.u8.wrap ((s.size :Nat):Int))) (bB _)<|tN 3 (.slice (some ⟨h1.size,0,none⟩) 1 1) #[bv (UInt8.ofNat s.size)] 5 fun h4 g5 m6=> ?_
 replace e0:=e0.ext g2
 replace sep:=sep.nw e0.size m6
 have eW:Own h4 (.slice (some ⟨h1.size,0,none⟩) 1 1) 5 1 1 (([UInt8.ofNat s.size]).map bv):=Own.blk m6 rfl (by unfold maxLen;decide)
 replace sep:Sep h.size h4.size [(some ⟨h1.size,0,none⟩:Option Addr).map (·.block),some (h.size)]:=sep
 replace e0:=e0.ext g5
 replace m3:=m3.x g5
 clear m6
 refine tF 5 (Does.bytesOf (el:=5) (s:=s) (by kernel_rfl)) ?_
 rintro _ h8 ⟨Cm,rfl,hrs,gs⟩
 replace e0:=e0.ext gs
 replace eW:=eW.ext gs
 replace m3:=m3.x gs
 replace sep:=sep.up gs.size
 clear gs
 refine tP 6 (1+s.size) 1 (([UInt8.ofNat s.size]++s.data.toList).map bv) eW hrs (aI _) (fun qi ew h11 eW g12 lF=> ?_)
 have s14:=sep
 replace sep:=sep.sa g12 0 lF eW e0.size;clear lF
 refine sT [(8,.slice qi (1+s.size) ew)] fun a hF=>qS hF<|tG 2 (tn _ ([UInt8.ofNat s.size]++s.data.toList) (1+s.size) n _ _ eW (by omega)) ?_
 rintro _ h17 ⟨dg,cQ,rfl,aq,hbx,gx⟩
 replace e0:=e0.grew g12 (s14.l 0)
 replace m3:=m3.y g12 (s14.bp 1 0)
 have hlo:=e0.size
 replace e0:=Gr.cY e0 gx (sep.low 0 rfl)
 replace m3:=gx.blk m3 (fun e=>(sep.bp 1 0) e.symm)
 replace sep:Sep h.size h17.size [dg.map (·.block),some (h.size)]:=sep.set gx.1 hlo 0 (y:=dg.map (fun(x:Addr)=>x.block)) rfl (hbx.imp id .inr) (fun k e=>aq.lt (by rw[aj];exact e))
 clear eW;have eW:=aq;clear aq hbx gx hlo
 refine sT [(8,.slice dg (1+s.size +1+1) cQ)] fun a hF=>qS hF<|tP 2 (1+s.size +1+1+32) 1 (((([UInt8.ofNat s.size]++s.data.toList)++[UInt8.ofNat (n/2^8),UInt8.ofNat n])++l).map bv) eW (hrow zG m3) (aI _) (fun tq o9 h20 eW g21 wD=> ?_)
 have s23:=sep
 replace sep:=sep.sa g21 0 wD eW e0.size;clear wD
 refine sT [(6,.slice tq (1+s.size +1+1+32) o9),(7,.int .i64 0)] fun a hF=>cR<|aK [.tmp 6,.tmp 7] [.slice tq (1+s.size +1+1+32) o9,.int .i64 0] (.tuple #[.slice tq (1+s.size +1+1+32) o9,.int .i64 0]) rfl hF ⟨rfl,rfl,trivial⟩ rfl ?_
 have hel:=jV s n zG
 rw[show 1+s.size +1+1+32=(dn s n l).length by omega] at eW
 replace e0:=e0.grew g21 (s23.l 0)
 exact⟨_,_,by rw[show 1+s.size +1+1+32=(dn s n l).length by omega],eW,sep.low 0 rfl,e0⟩
end Go.Proofs.YtegkejcglfgpmaaGreatDoor
end
section
namespace Go.Proofs.YtegkejcglfgpmaaGreatDoor
open Go Go.an Go.aT
noncomputable def b99:Code:=Tryz.f99.body.getD .skip
theorem Row.off{h:Heap}{b off n m:Nat}{cs:Array Value}{E:TypeId}{fr:Nat×Nat}{xs:List Value}(m1:h[b]? =some (.cells cs E fr))(hx:(cs.toList.drop off).take n=xs)(hl:xs.length =n)(hn:n≤m):Row h (.slice (some ⟨b,off,none⟩) n m) n 1 xs:=by
 refine⟨by rw[hl,Nat.mul_one],.inr ⟨_,m,rfl,hn,fun j u hu=> ?_⟩⟩
 rw[add_lit,ar m1]
 rw[←hx,List.getElem?_take] at hu
 split at hu
 ·rw[List.getElem?_drop] at hu;simpa using hu
 ·cases hu
theorem tr(h:Heap)(l:List UInt8)(n x:Nat)(va:Option Addr)(vc:Nat)(hr:Row h (.slice va n vc) n 1 (l.map bv))(hn:n≤1099511627000):Sat Tryz.prog 99 #[.slice va n vc,.int .u64 ((x:Nat):Int),.int .i64 2] h fun v h'=>∃ad cap,v= .slice ad (n+2) cap∧Own h' (.slice ad (n+2) cap) 5 (n+2) 1 ((l++[UInt8.ofNat (x/2^8),UInt8.ofNat x]).map bv)∧(∀k,ad.map (fun(x:Addr)=>x.block)=some k→h.size ≤k)∧Ext h h':=by
 have e0:=Ext.refl h
 have sep:Sep h.size h.size []:=Sep.nil _ _
 refine ak Tryz.func99 36 fun a hF=>qP [] hF fun a hF=>qS hF<|tG 1 (eV _ l n _ _ (hr.ext e0) (by omega)) ?_
 rintro _ h5 ⟨FZ,cap2,rfl,bq,hg4,g3⟩
 replace sep:=sep.co g3 hg4 bq e0.size
 refine sT [(7,.slice FZ n cap2)] fun a hF=>cS<|qP [(17,.bool false)] hF fun a hF=>cF 17 hF<|cN<|tK<|qS hF ?_
 refine tN 0 (pV h5.size) #[.int .u8 0,.int .u8 0,.int .u8 0,.int .u8 0,.int .u8 0,.int .u8 0,.int .u8 0,.int .u8 0] 177 fun h6 g7 m8=> ?_
 replace e0:=e0.ext g3
 replace sep:=sep.nw e0.size m8
 refine sT [(8,pV h5.size)] fun a hF=>cS<|qP [(19,.int .i64 0)] hF fun a hF=>cB 0<|cU 9<|az.step <|qP [(20,.bool true)] hF fun a hF=> ?_
 refine cS<|cT 20 hF<|cN<|tK<|cS<|cB 1<|qP [(9,.int .i64 0)] hF fun a hF=> ?_
 refine rS hF<|t1 5 (.int .u64 ((x/2^56:Nat):Int)) (.int .u64 (Int.fdiv ((x:Nat):Int) (2^56))) (congrArg (Value.int .u64) (bV (x) 56))<|t1 6 (bv (UInt8.ofNat (x/2^56))) (.int .u8 (IntKind.u8.wrap ((x/2^56:Nat):Int))) (bB _)<|tV 8 0 [bv (UInt8.ofNat (x/2^56))] [bv (UInt8.ofNat (x/2^56)),.int .u8 0,.int .u8 0,.int .u8 0,.int .u8 0,.int .u8 0,.int .u8 0,.int .u8 0] m8 fun h9 g10 zq=> ?_
 replace m8:=zq
 refine sE [] fun a hF=>bK<|tK<|rP [(19,.int .i64 1)] hF fun a hF=>tK (az.step ?_)
 refine qP [(20,.bool true)] hF fun a hF=>cS<|cT 20 hF<|cN<|tK<|cS<|cB 1 ?_
 refine qP [(9,.int .i64 1)] hF fun a hF=>rS hF<|t1 5 (.int .u64 ((x/2^48:Nat):Int)) (.int .u64 (Int.fdiv ((x:Nat):Int) (2^48))) (congrArg (Value.int .u64) (bV (x) 48))<|t1 6 (bv (UInt8.ofNat (x/2^48))) (.int .u8 (IntKind.u8.wrap ((x/2^48:Nat):Int))) (bB _)<|tV 8 1 [bv (UInt8.ofNat (x/2^48))] [bv (UInt8.ofNat (x/2^56)),bv (UInt8.ofNat (x/2^48)),.int .u8 0,.int .u8 0,.int .u8 0,.int .u8 0,.int .u8 0,.int .u8 0] m8 fun h11 g12 zq=> ?_
 replace m8:=zq
 refine sE [] fun a hF=>bK<|tK<|rP [(19,.int .i64 2)] hF fun a hF=>tK (az.step ?_)
 refine qP [(20,.bool true)] hF fun a hF=>cS<|cT 20 hF<|cN<|tK<|cS<|cB 1 ?_
 refine qP [(9,.int .i64 2)] hF fun a hF=>rS hF<|t1 5 (.int .u64 ((x/2^40:Nat):Int)) (.int .u64 (Int.fdiv ((x:Nat):Int) (2^40))) (congrArg (Value.int .u64) (bV (x) 40))<|t1 6 (bv (UInt8.ofNat (x/2^40))) (.int .u8 (IntKind.u8.wrap ((x/2^40:Nat):Int))) (bB _)<|tV 8 2 [bv (UInt8.ofNat (x/2^40))] [bv (UInt8.ofNat (x/2^56)),bv (UInt8.ofNat (x/2^48)),bv (UInt8.ofNat (x/2^40)),.int .u8 0,.int .u8 0,.int .u8 0,.int .u8 0,.int .u8 0] m8 fun h13 g14 zq=> ?_
 replace m8:=zq
 refine sE [] fun a hF=>bK<|tK<|rP [(19,.int .i64 3)] hF fun a hF=>tK (az.step ?_)
 refine qP [(20,.bool true)] hF fun a hF=>cS<|cT 20 hF<|cN<|tK<|cS<|cB 1 ?_
 refine qP [(9,.int .i64 3)] hF fun a hF=>rS hF<|t1 5 (.int .u64 ((x/2^32:Nat):Int)) (.int .u64 (Int.fdiv ((x:Nat):Int) (2^32))) (congrArg (Value.int .u64) (bV (x) 32))<|t1 6 (bv (UInt8.ofNat (x/2^32))) (.int .u8 (IntKind.u8.wrap ((x/2^32:Nat):Int))) (bB _)<|tV 8 3 [bv (UInt8.ofNat (x/2^32))] [bv (UInt8.ofNat (x/2^56)),bv (UInt8.ofNat (x/2^48)),bv (UInt8.ofNat (x/2^40)),bv (UInt8.ofNat (x/2^32)),.int .u8 0,.int .u8 0,.int .u8 0,.int .u8 0] m8 fun h15 g16 zq=> ?_
 replace m8:=zq
 refine sE [] fun a hF=>bK<|tK<|rP [(19,.int .i64 4)] hF fun a hF=>tK (az.step ?_)
 refine qP [(20,.bool true)] hF fun a hF=>cS<|cT 20 hF<|cN<|tK<|cS<|cB 1 ?_
 refine qP [(9,.int .i64 4)] hF fun a hF=>rS hF<|t1 5 (.int .u64 ((x/2^24:Nat):Int)) (.int .u64 (Int.fdiv ((x:Nat):Int) (2^24))) (congrArg (Value.int .u64) (bV (x) 24))<|t1 6 (bv (UInt8.ofNat (x/2^24))) (.int .u8 (IntKind.u8.wrap ((x/2^24:Nat):Int))) (bB _)<|tV 8 4 [bv (UInt8.ofNat (x/2^24))] [bv (UInt8.ofNat (x/2^56)),bv (UInt8.ofNat (x/2^48)),bv (UInt8.ofNat (x/2^40)),bv (UInt8.ofNat (x/2^32)),bv (UInt8.ofNat (x/2^24)),.int .u8 0,.int .u8 0,.int .u8 0] m8 fun h17 g18 zq=> ?_
 replace m8:=zq
 refine sE [] fun a hF=>bK<|tK<|rP [(19,.int .i64 5)] hF fun a hF=>tK (az.step ?_)
 refine qP [(20,.bool true)] hF fun a hF=>cS<|cT 20 hF<|cN<|tK<|cS<|cB 1 ?_
 refine qP [(9,.int .i64 5)] hF fun a hF=>rS hF<|t1 5 (.int .u64 ((x/2^16:Nat):Int)) (.int .u64 (Int.fdiv ((x:Nat):Int) (2^16))) (congrArg (Value.int .u64) (bV (x) 16))<|t1 6 (bv (UInt8.ofNat (x/2^16))) (.int .u8 (IntKind.u8.wrap ((x/2^16:Nat):Int))) (bB _)<|tV 8 5 [bv (UInt8.ofNat (x/2^16))] [bv (UInt8.ofNat (x/2^56)),bv (UInt8.ofNat (x/2^48)),bv (UInt8.ofNat (x/2^40)),bv (UInt8.ofNat (x/2^32)),bv (UInt8.ofNat (x/2^24)),bv (UInt8.ofNat (x/2^16)),.int .u8 0,.int .u8 0] m8 fun h19 g20 zq=> ?_
 replace m8:=zq
 refine sE [] fun a hF=>bK<|tK<|rP [(19,.int .i64 6)] hF fun a hF=>tK (az.step ?_)
 refine qP [(20,.bool true)] hF fun a hF=>cS<|cT 20 hF<|cN<|tK<|cS<|cB 1 ?_
 refine qP [(9,.int .i64 6)] hF fun a hF=>rS hF<|t1 5 (.int .u64 ((x/2^8:Nat):Int)) (.int .u64 (Int.fdiv ((x:Nat):Int) (2^8))) (congrArg (Value.int .u64) (bV (x) 8))<|t1 6 (bv (UInt8.ofNat (x/2^8))) (.int .u8 (IntKind.u8.wrap ((x/2^8:Nat):Int))) (bB _)<|tV 8 6 [bv (UInt8.ofNat (x/2^8))] [bv (UInt8.ofNat (x/2^56)),bv (UInt8.ofNat (x/2^48)),bv (UInt8.ofNat (x/2^40)),bv (UInt8.ofNat (x/2^32)),bv (UInt8.ofNat (x/2^24)),bv (UInt8.ofNat (x/2^16)),bv (UInt8.ofNat (x/2^8)),.int .u8 0] m8 fun h21 g22 zq=> ?_
 replace m8:=zq
 refine sE [] fun a hF=>bK<|tK<|rP [(19,.int .i64 7)] hF fun a hF=>tK (az.step ?_)
 refine qP [(20,.bool true)] hF fun a hF=>cS<|cT 20 hF<|cN<|tK<|cS<|cB 1 ?_
 refine qP [(9,.int .i64 7)] hF fun a hF=>rS hF<|t1 5 (.int .u64 ((x/2^0:Nat):Int)) (.int .u64 (Int.fdiv ((x:Nat):Int) (2^0))) (congrArg (Value.int .u64) (bV (x) 0))<|t1 6 (bv (UInt8.ofNat (x/2^0))) (.int .u8 (IntKind.u8.wrap ((x/2^0:Nat):Int))) (bB _)<|tV 8 7 [bv (UInt8.ofNat (x/2^0))] [bv (UInt8.ofNat (x/2^56)),bv (UInt8.ofNat (x/2^48)),bv (UInt8.ofNat (x/2^40)),bv (UInt8.ofNat (x/2^32)),bv (UInt8.ofNat (x/2^24)),bv (UInt8.ofNat (x/2^16)),bv (UInt8.ofNat (x/2^8)),bv (UInt8.ofNat (x/2^0))] m8 fun h23 g24 zq=> ?_
 replace m8:=zq
 refine sE [] fun a hF=>bK<|tK<|rP [(19,.int .i64 8)] hF fun a hF=>tK (az.step ?_)
 refine qP [(20,.bool false)] hF fun a hF=>cS<|cF 20 hF<|cX 0 (xT (xT (xB ?_)))
 refine tK<|qS hF ?_
 have hro:Row h23 (.slice (some ⟨h5.size,6,none⟩) 2 2) 2 1 (([UInt8.ofNat (x/2^8),UInt8.ofNat (x/2^0)]:List UInt8).map bv):=Row.off m8 (by rfl) rfl (Nat.le_refl _)
 replace bq:=((((((((bq.ext g7).k g10 (sep.ap 1 0)).k g12 (sep.ap 1 0)).k g14 (sep.ap 1 0)).k g16 (sep.ap 1 0)).k g18 (sep.ap 1 0)).k g20 (sep.ap 1 0)).k g22 (sep.ap 1 0)).k g24 (sep.ap 1 0)
 refine tP 4 (n+2) 1 ((l++[UInt8.ofNat (x/2^8),UInt8.ofNat (x/2^0)]).map bv) bq hro (aI _) (fun ns i' h27 bq fe zH=> ?_) (ys:=(([UInt8.ofNat (x/2^8),UInt8.ofNat (x/2^0)]).map bv))
 replace e0:=((((((((e0.ext g7).grew g10 (sep.l 0)).grew g12 (sep.l 0)).grew g14 (sep.l 0)).grew g16 (sep.l 0)).grew g18 (sep.l 0)).grew g20 (sep.l 0)).grew g22 (sep.l 0)).grew g24 (sep.l 0)
 replace sep:=(((((((sep.up g10.size).up g12.size).up g14.size).up g16.size).up g18.size).up g20.size).up g22.size).up g24.size
 have Ht:=sep
 replace sep:=sep.sa fe 1 zH bq e0.size;clear zH
 refine sT [(6,.slice ns (n+2) i')] fun a hF=>cR<|rT 6 (.slice ns (n+2) i') hF ?_
 replace e0:=e0.grew fe (Ht.l 1)
 exact⟨_,_,rfl,by simpa only[Nat.pow_zero,Nat.div_one] using bq,sep.low 1 rfl,e0⟩
theorem hU(h:Heap)(s:ByteArray)(hs:aP s=true):Sat Tryz.prog 62 #[.string s] h fun v h'=>v= .bool true∧h'=h:=hs▸rq h s (by have:=iB hs;omega)
theorem j_(h:Heap)(s:ByteArray)(hz:s.size ≤9223372036854775807)(hs:aP s=false):Sat Tryz.prog 62 #[.string s] h fun v h'=>v= .bool false∧h'=h:=hs▸rq h s hz
theorem tt(h:Heap)(n m:Nat)(hm:m≤1099511627776)(hn:n≤m):Sat Tryz.prog 98 #[.int .i64 ((n:Nat):Int),.int .i64 ((m:Nat):Int)] h fun v h'=>v= .bool true∧h'=h:=(decide_eq_true hn)▸tm h n m (by omega)
noncomputable def b65:Code:=Tryz.f65.body.getD .skip
theorem wE(h:Heap)(s:ByteArray)(n:Nat)(l:List UInt8)(hs:aP s=true)(hn:n≤512)(zG:l.length =32):Sat Tryz.prog 65 #[.string s,.int .i64 ((n:Nat):Int),.agg (l.map bv).toArray] h fun v h'=>∃ad cap,v= .tuple #[.slice ad (dn s n l).length cap,.int .i64 0]∧Own h' (.slice ad (dn s n l).length cap) 5 (dn s n l).length 1 ((dn s n l).map bv)∧(∀k,ad.map (fun(x:Addr)=>x.block)=some k→h.size ≤k)∧Ext h h':=by
 have hsl:=iB hs
 have hsp:=qR hs
 have e0:=Ext.refl h
 have sep:Sep h.size h.size []:=Sep.nil _ _
 refine ak Tryz.func65 29 fun a hF=>qS hF<|tN 0 (pV h.size) ((l.map bv).toArray) 39 fun h1 g2 m3=> ?_
 replace sep:=sep.nw e0.size m3
 refine sT [(5,pV h.size)] fun a hF=>cS<|qS hF<|tC 1 (.bool true) (Does.call (f:=62) (args:= #[.string s]) (by kernel_rfl) (hU _ s hs))<|tC 5 (.bool true) (Does.call (f:=98) (args:= #[nV n,.int .i64 512]) (by kernel_rfl) (tt _ n 512 (by decide) (by omega)))<|sT [(16,.bool false)] fun a hF=>cF 16 hF ?_
 refine cN<|tK<|qS hF<|t1 2 (bv (UInt8.ofNat s.size)) (.int .u8 (IntKind.u8.wrap ((s.size :Nat):Int))) (bB _)<|tN 3 (.slice (some ⟨h1.size,0,none⟩) 1 1) #[bv (UInt8.ofNat s.size)] 5 fun h4 g5 m6=> ?_
 replace e0:=e0.ext g2
 replace sep:=sep.nw e0.size m6
 refine tF 5 (Does.vO (t:=32) (u:=9) (E:=5) (n:=1) (xs:=([UInt8.ofNat s.size]:List UInt8).map bv) (by kernel_rfl) (by kernel_rfl) (by kernel_rfl) (Row.blk m6 rfl) (by omega) (by omega)) ?_
 rintro _ h9 ⟨et,b8,rfl,aq,hb,g⟩
 replace e0:=e0.ext g5
 have hlo:=e0.size
 have a7:=sep
 replace m3:=m3.x g5
 replace e0:=e0.ext g
 replace m3:=m3.x g
 replace m6:=m6.x g
 replace sep:=sep.up g.size
 replace sep:=a7.cons (x:=some et.block) g.size hlo (fun k e=>by cases e;exact⟨Nat.le_of_eq hb.symm,aq.lt (by rfl)⟩)
 have eW:Own h9 (.slice (some et) (1+s.size) b8) 5 (1+s.size) 1 (([UInt8.ofNat s.size]++s.data.toList).map bv):=by rw[List.map_append];exact aq
 clear aq a7 hlo hb g
 refine t1 7 (.int .u64 ((n:Nat):Int)) (.int .u64 (IntKind.u64.wrap ((n:Nat):Int))) (congrArg (Value.int .u64) (nY (by omega)))<|tG 8 (tr _ ([UInt8.ofNat s.size]++s.data.toList) (1+s.size) n _ _ eW.row (by omega)) ?_
 rintro _ fc ⟨dF,cy,rfl,dG,E4,g12⟩
 replace sep:=sep.co g12 E4 dG e0.size
 refine sT [(8,.slice dF (1+s.size +2) cy)] fun a hF=>qS hF ?_
 replace m3:=m3.x g12
 refine tP 2 (1+s.size +2+32) 1 (((([UInt8.ofNat s.size]++s.data.toList)++[UInt8.ofNat (n/2^8),UInt8.ofNat n])++l).map bv) dG (hrow zG m3) (aI _) (fun dg cQ h17 dG g18 iT=> ?_)
 replace e0:=e0.ext g12
 have s20:=sep
 replace sep:=sep.sa g18 0 iT dG e0.size;clear iT
 refine sT [(6,.slice dg (1+s.size +2+32) cQ),(7,.int .i64 0)] fun a hF=>cR<|aK [.tmp 6,.tmp 7] [.slice dg (1+s.size +2+32) cQ,.int .i64 0] (.tuple #[.slice dg (1+s.size +2+32) cQ,.int .i64 0]) rfl hF ⟨rfl,rfl,trivial⟩ rfl ?_
 have hel:=jV s n zG
 rw[show 1+s.size +2+32=(dn s n l).length by omega] at dG
 replace e0:=e0.grew g18 (s20.l 0)
 exact⟨_,_,by rw[show 1+s.size +2+32=(dn s n l).length by omega],dG,sep.low 0 rfl,e0⟩
end Go.Proofs.YtegkejcglfgpmaaGreatDoor
end
section
namespace Go.Proofs.YtegkejcglfgpmaaGreatDoor
open Go Go.an Go.aT
noncomputable def b67:Code:=Tryz.f67.body.getD .skip
theorem ve{W:Nat→Prop}(h:Heap)(mb mp:Nat)(M:Md)(L:List bY)(ck:Nat)(ea:Option Addr)(ec:Nat)(es:List Value)(md:bI W h mb mp M L ck ea ec es)(s:ByteArray)(hsz:s.size ≤9223372036854775807)(hok:aP s=false):Sat Tryz.prog 67 #[.pointer (some ⟨mb,0,none⟩),.string s] h fun v h'=>v= .tuple #[.agg (bl aC (0:Int) false false (.slice none 0 0) (.slice none 0 0)).toArray,.int .i64 210]∧Ext h h':=by
 have hm:=md.hm
 have hp:=md.hp
 have e0:=Ext.refl h
 have sep:Sep h.size h.size []:=Sep.nil _ _
 refine ak Tryz.func67 27 fun a hF=>qS hF<|tN 0 (pV h.size) ((bl aC (0:Int) false false (.slice none 0 0) (.slice none 0 0)).toArray) 101 fun h1 g2 m3=> ?_
 replace sep:=sep.nw e0.size m3
 refine sT [(4,pV h.size)] fun a hF=>cS ?_
 rcases md.find s with⟨hf,hno⟩|⟨A,x,B,o,rfl,hs,hf,ha⟩
 ·refine rS hF ?_
  replace e0:=e0.ext g2
  refine tO 3 0 (e0.blk hm)<|tC 5 (.tuple #[.agg (bl aC (0:Int) false false (.slice none 0 0) (.slice none 0 0)).toArray,.bool false]) (pK (t:=81) 9 101 (by kernel_rfl) (by kernel_rfl) (by kernel_rfl) (.agg (bl aC (0:Int) false false (.slice none 0 0) (.slice none 0 0)).toArray) (by kernel_rfl) (e0.blk hp) hno)<|tN 9 (pV h1.size) ((bl aC (0:Int) false false (.slice none 0 0) (.slice none 0 0)).toArray) 101 fun h4 g5 m6=> ?_
  replace sep:=sep.nw e0.size m6
  refine bG 10 (bl aC (0:Int) false false (.slice none 0 0) (.slice none 0 0)) m6 fun h7 g8 zq=> ?_
  replace m6:=zq
  refine sE [(6,pV h1.size),(7,.bool false)] fun a hF=>tK<|cS<|cB 0<|qS hF<|tC 1 (.bool false) (Does.call (f:=62) (args:= #[.string s]) (by kernel_rfl) (j_ _ s hsz hok))<|sT [(17,.bool true)] fun a hF=> ?_
  refine cT 17 hF<|qS hF ?_
  replace m3:=(m3.x g5).y g8 (sep.bp 1 0)
  refine bG 1 (bl aC (0:Int) false false (.slice none 0 0) (.slice none 0 0)) m3 fun h9 g10 zq=> ?_
  replace m3:=zq
  refine sT [(5,.int .i64 210)] fun a hF=>cR (yB (yT ?_))
  refine aK [.cell 4 101,.tmp 5] [.agg (bl aC (0:Int) false false (.slice none 0 0) (.slice none 0 0)).toArray,.int .i64 210] (.tuple #[.agg (bl aC (0:Int) false false (.slice none 0 0) (.slice none 0 0)).toArray,.int .i64 210]) rfl hF ⟨⟨_,rfl,Loads.blk (vs:=bl aC (0:Int) false false (.slice none 0 0) (.slice none 0 0)) (by kernel_rfl) m3 rfl⟩,rfl,trivial⟩ rfl ?_
  replace e0:=((e0.ext g5).grew g8 (sep.l 0)).grew g10 (sep.l 1)
  exact⟨rfl,e0⟩
 ·obtain⟨hid,hdl,ca,cc,ba,bc,hv,r1,r2⟩:=ha
  refine rS hF ?_
  replace e0:=e0.ext g2
  refine tO 3 0 (e0.blk hm)<|tC 5 (.tuple #[.agg (bl o.b o.e o.ho o.go (.slice ca 0 cc) (.slice ba o.dt.length bc)).toArray,.bool true]) (iC (t:=81) 9 101 (by kernel_rfl) (by kernel_rfl) (by kernel_rfl) (.agg (bl aC (0:Int) false false (.slice none 0 0) (.slice none 0 0)).toArray) (by kernel_rfl) (e0.blk hp) (List.mem_append_right _ (List.mem_cons_self ..)) hs md.nd hv)<|tN 9 (pV h1.size) ((bl aC (0:Int) false false (.slice none 0 0) (.slice none 0 0)).toArray) 101 fun h11 g12 m13=> ?_
  replace sep:=sep.nw e0.size m13
  refine bG 10 (bl o.b o.e o.ho o.go (.slice ca 0 cc) (.slice ba o.dt.length bc)) m13 fun fc g15 zq=> ?_
  replace m13:=zq
  refine sE [(6,pV h1.size),(7,.bool true)] fun a hF=>tK<|cS<|cB 0<|qS hF<|tC 1 (.bool false) (Does.call (f:=62) (args:= #[.string s]) (by kernel_rfl) (j_ _ s hsz hok))<|sT [(17,.bool true)] fun a hF=> ?_
  refine cT 17 hF<|qS hF ?_
  replace m3:=(m3.x g12).y g15 (sep.bp 1 0)
  refine bG 1 (bl aC (0:Int) false false (.slice none 0 0) (.slice none 0 0)) m3 fun h16 g17 zq=> ?_
  replace m3:=zq
  refine sT [(5,.int .i64 210)] fun a hF=>cR (yB (yT ?_))
  refine aK [.cell 4 101,.tmp 5] [.agg (bl aC (0:Int) false false (.slice none 0 0) (.slice none 0 0)).toArray,.int .i64 210] (.tuple #[.agg (bl aC (0:Int) false false (.slice none 0 0) (.slice none 0 0)).toArray,.int .i64 210]) rfl hF ⟨⟨_,rfl,Loads.blk (vs:=bl aC (0:Int) false false (.slice none 0 0) (.slice none 0 0)) (by kernel_rfl) m3 rfl⟩,rfl,trivial⟩ rfl ?_
  replace e0:=((e0.ext g12).grew g15 (sep.l 0)).grew g17 (sep.l 1)
  exact⟨rfl,e0⟩
theorem o_{W:Nat→Prop}(h:Heap)(mb mp:Nat)(M:Md)(L:List bY)(ck:Nat)(ea:Option Addr)(ec:Nat)(es:List Value)(md:bI W h mb mp M L ck ea ec es)(s:ByteArray)(hno:∀x∈L,x.1 ≠s)(hok:aP s=true):Sat Tryz.prog 67 #[.pointer (some ⟨mb,0,none⟩),.string s] h fun v h'=>v= .tuple #[.agg (bl aC (0:Int) false false (.slice none 0 0) (.slice none 0 0)).toArray,.int .i64 211]∧Ext h h':=by
 have hm:=md.hm
 have hp:=md.hp
 have e0:=Ext.refl h
 have sep:Sep h.size h.size []:=Sep.nil _ _
 refine ak Tryz.func67 27 fun a hF=>qS hF<|tN 0 (pV h.size) ((bl aC (0:Int) false false (.slice none 0 0) (.slice none 0 0)).toArray) 101 fun h1 g2 m3=> ?_
 replace sep:=sep.nw e0.size m3
 refine sT [(4,pV h.size)] fun a hF=>qS hF ?_
 replace e0:=e0.ext g2
 refine tO 3 0 (e0.blk hm)<|tC 5 (.tuple #[.agg (bl aC (0:Int) false false (.slice none 0 0) (.slice none 0 0)).toArray,.bool false]) (pK (t:=81) 9 101 (by kernel_rfl) (by kernel_rfl) (by kernel_rfl) (.agg (bl aC (0:Int) false false (.slice none 0 0) (.slice none 0 0)).toArray) (by kernel_rfl) (e0.blk hp) hno)<|tN 9 (pV h1.size) ((bl aC (0:Int) false false (.slice none 0 0) (.slice none 0 0)).toArray) 101 fun h4 g5 m6=> ?_
 replace sep:=sep.nw e0.size m6
 refine bG 10 (bl aC (0:Int) false false (.slice none 0 0) (.slice none 0 0)) m6 fun h7 g8 zq=> ?_
 replace m6:=zq
 refine sT [(6,pV h1.size),(7,.bool false)] fun a hF=>cS<|cB 0<|qS hF<|tC 1 (.bool true) (Does.call (f:=62) (args:= #[.string s]) (by kernel_rfl) (hU _ s hok))<|sT [(17,.bool false)] fun a hF=>cF 17 hF ?_
 refine qP [(22,.bool true)] hF fun a hF=>cT 22 hF<|qS hF ?_
 replace m3:=(m3.x g5).y g8 (sep.bp 1 0)
 refine bG 1 (bl aC (0:Int) false false (.slice none 0 0) (.slice none 0 0)) m3 fun h9 g10 zq=> ?_
 replace m3:=zq
 refine sT [(5,.int .i64 211)] fun a hF=>cR (yB (yT ?_))
 refine aK [.cell 4 101,.tmp 5] [.agg (bl aC (0:Int) false false (.slice none 0 0) (.slice none 0 0)).toArray,.int .i64 211] (.tuple #[.agg (bl aC (0:Int) false false (.slice none 0 0) (.slice none 0 0)).toArray,.int .i64 211]) rfl hF ⟨⟨_,rfl,Loads.blk (vs:=bl aC (0:Int) false false (.slice none 0 0) (.slice none 0 0)) (by kernel_rfl) m3 rfl⟩,rfl,trivial⟩ rfl ?_
 replace e0:=((e0.ext g5).grew g8 (sep.l 0)).grew g10 (sep.l 1)
 exact⟨rfl,e0⟩
theorem ru{W:Nat→Prop}(h:Heap)(mb mp:Nat)(M:Md)(L:List bY)(ck:Nat)(ea:Option Addr)(ec:Nat)(es:List Value)(md:bI W h mb mp M L ck ea ec es)(s:ByteArray)(x:bY)(hx:x∈L)(hs:x.1 =s)(o:Ob)(ca:Option Addr)(cc:Nat)(ba:Option Addr)(bc:Nat)(hv:x.2.1 =GC o (.slice ca 0 cc) (.slice ba o.dt.length bc))(hok:aP s=true):Sat Tryz.prog 67 #[.pointer (some ⟨mb,0,none⟩),.string s] h fun v h'=>v= .tuple #[.agg (bl o.b o.e o.ho o.go (.slice ca 0 cc) (.slice ba o.dt.length bc)).toArray,.int .i64 0]∧Ext h h':=by
 have hm:=md.hm
 have hp:=md.hp
 have e0:=Ext.refl h
 have sep:Sep h.size h.size []:=Sep.nil _ _
 refine ak Tryz.func67 27 fun a hF=>qS hF<|tN 0 (pV h.size) ((bl aC (0:Int) false false (.slice none 0 0) (.slice none 0 0)).toArray) 101 fun h1 g2 m3=> ?_
 replace sep:=sep.nw e0.size m3
 refine sT [(4,pV h.size)] fun a hF=>qS hF ?_
 replace e0:=e0.ext g2
 refine tO 3 0 (e0.blk hm)<|tC 5 (.tuple #[.agg (bl o.b o.e o.ho o.go (.slice ca 0 cc) (.slice ba o.dt.length bc)).toArray,.bool true]) (iC (t:=81) 9 101 (by kernel_rfl) (by kernel_rfl) (by kernel_rfl) (.agg (bl aC (0:Int) false false (.slice none 0 0) (.slice none 0 0)).toArray) (by kernel_rfl) (e0.blk hp) hx hs md.nd hv)<|tN 9 (pV h1.size) ((bl aC (0:Int) false false (.slice none 0 0) (.slice none 0 0)).toArray) 101 fun h4 g5 m6=> ?_
 replace sep:=sep.nw e0.size m6
 refine bG 10 (bl o.b o.e o.ho o.go (.slice ca 0 cc) (.slice ba o.dt.length bc)) m6 fun h7 g8 zq=> ?_
 replace m6:=zq
 refine sT [(6,pV h1.size),(7,.bool true)] fun a hF=>cS<|cB 0<|qS hF<|tC 1 (.bool true) (Does.call (f:=62) (args:= #[.string s]) (by kernel_rfl) (hU _ s hok))<|sT [(17,.bool false)] fun a hF=>cF 17 hF ?_
 refine qP [(22,.bool false)] hF fun a hF=>cF 22 hF<|cN<|bK<|tK<|qS hF<|tR 0 m6 ?_
 replace m3:=(m3.x g5).y g8 (sep.bp 1 0)
 refine bG 1 (bl o.b o.e o.ho o.go (.slice ca 0 cc) (.slice ba o.dt.length bc)) m3 fun h9 g10 zq=> ?_
 replace m3:=zq
 refine sT [(5,.int .i64 0)] fun a hF=>cR<|aK [.cell 4 101,.tmp 5] [.agg (bl o.b o.e o.ho o.go (.slice ca 0 cc) (.slice ba o.dt.length bc)).toArray,.int .i64 0] (.tuple #[.agg (bl o.b o.e o.ho o.go (.slice ca 0 cc) (.slice ba o.dt.length bc)).toArray,.int .i64 0]) rfl hF ⟨⟨_,rfl,Loads.blk (vs:=bl o.b o.e o.ho o.go (.slice ca 0 cc) (.slice ba o.dt.length bc)) (by kernel_rfl) m3 rfl⟩,rfl,trivial⟩ rfl ?_
 replace e0:=((e0.ext g5).grew g8 (sep.l 0)).grew g10 (sep.l 1)
 exact⟨rfl,e0⟩
noncomputable def b33:Code:=Tryz.f33.body.getD .skip
theorem vf(g k:Bool)(t e:Int):g=true∨(g=false∧k=true)∨(g=false∧k=false∧t<e)∨(g=false∧k=false∧e≤t):=by cases g<;>cases k<;>simp<;>omega
set_option maxHeartbeats 1000000 in
theorem jq{W:Nat→Prop}(h:Heap)(mb mp:Nat)(M:Md)(L:List bY)(ck:Nat)(ea:Option Addr)(ec:Nat)(es:List Value)(md:bI W h mb mp M L ck ea ec es)(kd n:Int)(s:ByteArray)(oa:Option Addr)(on oc:Nat)(ka:Option Addr)(kn kc:Nat)(hsz:s.size ≤9223372036854775807):Sat Tryz.prog 33 #[.pointer (some ⟨mb,0,none⟩),.agg #[.int .i64 kd,.string s,.slice oa on oc,.int .i64 n,.slice ka kn kc]] h fun v h'=>v= .int .i64 (iZ M kd n s).2 ∧dN W h' mb mp (iZ M kd n s).1 ∧MG mb mp h h':=by
 have hm:=md.hm
 have hp:=md.hp
 have e0:=Ext.refl h
 have sep:Sep h.size h.size []:=Sep.nil _ _
 refine ak Tryz.func33 80 fun a hF=>qS hF<|tN 0 (pV h.size) #[.int .i64 kd,.string s,.slice oa on oc,.int .i64 n,.slice ka kn kc] 35 fun h1 g2 m3=> ?_
 replace sep:=sep.nw e0.size m3
 refine sT [(3,pV h.size)] fun a hF=>cS ?_
 rcases md.kM s with hok|⟨hok,hf,hno⟩|⟨hok,A,x,B,o,rfl,hs,hf,hid,hdl,ca,cc,ba,bc,hv,r1,r2⟩
 ·refine rS hF<|tO 2 1 m3 ?_
  replace e0:=e0.ext g2
  refine tG 3 (ve _ mb mp M _ ck ea ec es (md.ext e0) s hsz hok) ?_
  rintro _ h5 ⟨rfl,g4⟩
  refine tN 7 (pV h5.size) ((bl aC (0:Int) false false (.slice none 0 0) (.slice none 0 0)).toArray) 101 fun h6 g7 m8=> ?_
  replace e0:=e0.ext g4
  replace sep:=(sep.up g4.size).nw e0.size m8
  refine bG 8 (bl aC (0:Int) false false (.slice none 0 0) (.slice none 0 0)) m8 fun h9 g10 zq=> ?_
  replace m8:=zq
  refine sE [(5,pV h5.size),(6,.int .i64 210)] fun a hF=>tK<|cS<|cS ?_
  ·refine rP [(30,.bool false)] hF fun a hF=>tK<|cF 30 hF<|cN<|tK<|cS<|qP [(32,.bool true)] hF fun a hF=> ?_
   refine cT 32 hF<|qP [(4,.int .i64 210)] hF fun a hF=>cR (yT ?_)
   refine rT 4 (.int .i64 210) hF ?_
   replace e0:=(e0.ext g7).grew g10 (sep.l 0)
   rw[yS hok];exact⟨rfl,⟨_,_,_,_,_,md.ext e0⟩,MG.aS e0⟩
 ·refine rS hF<|tO 2 1 m3 ?_
  replace e0:=e0.ext g2
  refine tG 3 (o_ _ mb mp M _ ck ea ec es (md.ext e0) s hno hok) ?_
  rintro _ h12 ⟨rfl,g11⟩
  refine tN 7 (pV h12.size) ((bl aC (0:Int) false false (.slice none 0 0) (.slice none 0 0)).toArray) 101 fun h13 g14 m15=> ?_
  replace e0:=e0.ext g11
  replace sep:=(sep.up g11.size).nw e0.size m15
  refine bG 8 (bl aC (0:Int) false false (.slice none 0 0) (.slice none 0 0)) m15 fun h16 g17 zq=> ?_
  replace m15:=zq
  refine sE [(5,pV h12.size),(6,.int .i64 211)] fun a hF=>tK<|cS<|cS ?_
  rcases pJ kd n with hk|hk|hk|hk
  ·refine rS hF ?_
   replace m3:=((m3.x g11).x g14).y g17 (sep.bp 1 0)
   refine tO 4 0 m3<|eT 5 kd 4<|tO 9 3 m3<|tT 10 (n<(0:Int))<|sE [(30,.bool true)] fun a hF=>tK<|cT 30 hF ?_
   refine qP [(4,.int .i64 1)] hF fun a hF=>cR (yT ?_)
   refine rT 4 (.int .i64 1) hF ?_
   replace e0:=(e0.ext g14).grew g17 (sep.l 0)
   rw[fb hok (by omega)];exact⟨rfl,⟨_,_,_,_,_,md.ext e0⟩,MG.aS e0⟩
  ·refine rS hF ?_
   replace m3:=((m3.x g11).x g14).y g17 (sep.bp 1 0)
   refine tO 4 0 m3<|eT 5 kd 4<|tO 9 3 m3<|tX 10 (n<(0:Int))<|tO 13 3 m3<|tT 14 ((1099511627776:Int)<n)<|sE [(30,.bool true)] fun a hF=> ?_
   refine tK<|cT 30 hF<|qP [(4,.int .i64 1)] hF fun a hF=>cR (yT ?_)
   refine rT 4 (.int .i64 1) hF ?_
   replace e0:=(e0.ext g14).grew g17 (sep.l 0)
   rw[fb hok (by omega)];exact⟨rfl,⟨_,_,_,_,_,md.ext e0⟩,MG.aS e0⟩
  ·refine rS hF ?_
   replace m3:=((m3.x g11).x g14).y g17 (sep.bp 1 0)
   refine tO 4 0 m3<|eT 5 kd 4<|tO 9 3 m3<|tX 10 (n<(0:Int))<|tO 13 3 m3<|tX 14 ((1099511627776:Int)<n)<|sE [(30,.bool false)] fun a hF=> ?_
   refine tK<|cF 30 hF<|cN<|tK<|cS<|qP [(32,.bool true)] hF fun a hF=>cT 32 hF ?_
   refine qP [(4,.int .i64 211)] hF fun a hF=>cR (yT ?_)
   refine rT 4 (.int .i64 211) hF ?_
   replace e0:=(e0.ext g14).grew g17 (sep.l 0)
   rw[jW hok (by omega) hf];exact⟨rfl,⟨_,_,_,_,_,md.ext e0⟩,MG.aS e0⟩
  ·refine rS hF ?_
   replace m3:=((m3.x g11).x g14).y g17 (sep.bp 1 0)
   refine tO 4 0 m3<|eF 5 kd 4<|sE [(30,.bool false)] fun a hF=>tK<|cF 30 hF<|cN<|tK ?_
   refine cS<|qP [(32,.bool true)] hF fun a hF=>cT 32 hF<|qP [(4,.int .i64 211)] hF fun a hF=>cR (yT ?_)
   refine rT 4 (.int .i64 211) hF ?_
   replace e0:=(e0.ext g14).grew g17 (sep.l 0)
   rw[jW hok (by omega) hf];exact⟨rfl,⟨_,_,_,_,_,md.ext e0⟩,MG.aS e0⟩
 ·obtain⟨ob,oe,oh,og,od⟩:=o
  refine rS hF<|tO 2 1 m3 ?_
  replace e0:=e0.ext g2
  refine tG 3 (ru _ mb mp M _ ck ea ec es (md.ext e0) s x (List.mem_append_right _ (List.mem_cons_self ..)) hs ⟨ob,oe,oh,og,od⟩ ca cc ba bc hv hok) ?_
  rintro _ h19 ⟨rfl,g18⟩
  refine tN 7 (pV h19.size) ((bl aC (0:Int) false false (.slice none 0 0) (.slice none 0 0)).toArray) 101 fun h20 g21 m22=> ?_
  replace e0:=e0.ext g18
  replace sep:=(sep.up g18.size).nw e0.size m22
  refine bG 8 (bl ob oe oh og (.slice ca 0 cc) (.slice ba od.length bc)) m22 fun h23 g24 zq=> ?_
  replace m22:=zq
  refine sE [(5,pV h19.size),(6,.int .i64 0)] fun a hF=>tK<|cS<|cS ?_
  rcases pJ kd n with hk|hk|hk|hk
  ·refine rS hF ?_
   replace m3:=((m3.x g18).x g21).y g24 (sep.bp 1 0)
   refine tO 4 0 m3<|eT 5 kd 4<|tO 9 3 m3<|tT 10 (n<(0:Int))<|sE [(30,.bool true)] fun a hF=>tK<|cT 30 hF ?_
   refine qP [(4,.int .i64 1)] hF fun a hF=>cR (yT ?_)
   refine rT 4 (.int .i64 1) hF ?_
   replace e0:=(e0.ext g21).grew g24 (sep.l 0)
   rw[fb hok (by omega)];exact⟨rfl,⟨_,_,_,_,_,md.ext e0⟩,MG.aS e0⟩
  ·refine rS hF ?_
   replace m3:=((m3.x g18).x g21).y g24 (sep.bp 1 0)
   refine tO 4 0 m3<|eT 5 kd 4<|tO 9 3 m3<|tX 10 (n<(0:Int))<|tO 13 3 m3<|tT 14 ((1099511627776:Int)<n)<|sE [(30,.bool true)] fun a hF=> ?_
   refine tK<|cT 30 hF<|qP [(4,.int .i64 1)] hF fun a hF=>cR (yT ?_)
   refine rT 4 (.int .i64 1) hF ?_
   replace e0:=(e0.ext g21).grew g24 (sep.l 0)
   rw[fb hok (by omega)];exact⟨rfl,⟨_,_,_,_,_,md.ext e0⟩,MG.aS e0⟩
  ·refine rS hF ?_
   replace m3:=((m3.x g18).x g21).y g24 (sep.bp 1 0)
   refine tO 4 0 m3<|eT 5 kd 4<|tO 9 3 m3<|tX 10 (n<(0:Int))<|tO 13 3 m3<|tX 14 ((1099511627776:Int)<n)<|sE [(30,.bool false)] fun a hF=> ?_
   refine tK<|cF 30 hF<|cN<|tK<|cS<|qP [(32,.bool false)] hF fun a hF=>cF 32 hF ?_
   refine cN<|tK<|cS<|qS hF<|tO 1 0 m3<|sT [(35,.int .i64 kd)] fun a hF=>cB 0 ?_
   refine qS hF<|eT 0 kd 4<|sT [(47,.bool true)] fun a hF=>cT 47 hF ?_
   cases og
   ·refine rS hF<|tQ 1 0 (rc ob oe oh false (.slice ca 0 cc)) m22<|tO 3 3 m3<|tG 4 (Ck _ ob oe oh [] ca cc (r1.zero rfl) (by decide) n (by omega) (by omega)) ?_
    rintro _ h27 ⟨_,rfl,ns,i',rfl,aq,hge,g⟩
    replace e0:=(e0.ext g21).grew g24 (sep.l 0)
    replace sep:=sep.up g24.size
    replace e0:=e0.ext g
    replace m3:=m3.x g
    replace m22:=m22.x g
    replace sep:=sep.up g.size
    clear hge g;have hrc:=aq.row;clear aq
    refine tV 9 0 (rc ob (max oe n) oh false (.slice ns 0 i')) (bl ob (max oe n) oh false (.slice ns 0 i') (.slice ba od.length bc)) m22 fun h28 fp zq=> ?_
    replace m22:=zq
    refine sE [(6,.int .i64 0)] fun a hF=>bK<|tK<|cS<|qP [(71,.bool true)] hF fun a hF=>cT 71 hF<|cD [0,1,3,7,0,16,0,127] 13 mixed hF ?_
    refine mP 7 [0,1,2] [pV mb,pV mb,pV mb] ?_
    replace e0:=e0.grew fp (sep.l 0)
    refine mO 15 8 3 0 (.map (some mp)) (e0.blk hm)<|mP 31 [4] [.pointer (some ⟨h.size,1,none⟩)] ?_
    replace m3:=m3.y fp (sep.bp 1 0)
    refine mO 63 40 5 1 (.string s) m3<|mR 127 104 6 m22 ?_
    have hpo:=e0.blk hp
    refine jv 255 255 7 (Does.sH (t:=81) (k:=9) (el:=101) (v:= .agg (bl ob (max oe n) oh false (.slice ns 0 i') (.slice ba od.length bc)).toArray) (by kernel_rfl) (by kernel_rfl) (by kernel_rfl) hpo hs md.nd) ?_
    rintro _ h30 ⟨rfl,hh⟩
    have gp:=bD hh
    have hpn:=fD hh hpo
    refine mE [] fun a hF=>tK<|qP [(4,.int .i64 0)] hF fun a hF=>cR<|rT 4 (.int .i64 0) hF ?_
    have zI:=md.ext e0
    have hob:fR W h30 s (.agg (bl ob (max oe n) oh false (.slice ns 0 i') (.slice ba od.length bc)).toArray) ⟨ob,(max oe n),oh,false,od⟩:=⟨hid,hdl,_,_,_,_,rfl,hrc.zero rfl,(r2.ext e0).mg (MG.BD gp) zI.hm zI.hp⟩
    subst hs
    rw[kN hok (by omega) hf (o':=⟨ob,(max oe n),oh,false,od⟩) (by first|exact eJ hk.1 |exact eK hk5|exact fC hk hk5 ht)]
    exact⟨rfl,⟨_,_,_,_,_,zI.set gp hpn hob⟩,(MG.aS e0).trans (MG.BD gp)⟩
   ·refine rS hF<|tQ 1 0 (rc ob oe oh true (.slice ca 0 cc)) m22<|tO 3 3 m3<|tG 4 (wz _ ob oe oh [] ca cc n (by omega) (by omega)) ?_
    rintro _ h32 ⟨rfl,eE⟩
    replace m22:=m22.x eE
    refine tV 9 0 (rc aC (0:Int) false false (.slice none 0 0)) (bl aC (0:Int) false false (.slice none 0 0) (.slice ba od.length bc)) m22 fun zc s4 zq=> ?_
    replace m22:=zq
    refine sE [(6,.int .i64 213)] fun a hF=>bK<|tK<|cS<|qP [(71,.bool false)] hF fun a hF=>cF 71 hF<|cN ?_
    refine tK<|qP [(4,.int .i64 213)] hF fun a hF=>cR<|rT 4 (.int .i64 213) hF ?_
    replace e0:=(((e0.ext g21).grew g24 (sep.l 0)).ext eE).grew s4 (sep.l 0)
    rw[fk hok (by omega) hf (z:=213) (by first|exact cz|exact cA hk hk5|exact cE hk hk5 ht) (by decide)];exact⟨rfl,⟨_,_,_,_,_,md.ext e0⟩,MG.aS e0⟩
  ·refine rS hF ?_
   replace m3:=((m3.x g18).x g21).y g24 (sep.bp 1 0)
   refine tO 4 0 m3<|eF 5 kd 4<|sE [(30,.bool false)] fun a hF=>tK<|cF 30 hF<|cN<|tK ?_
   refine cS<|qP [(32,.bool false)] hF fun a hF=>cF 32 hF<|cN<|tK<|cS<|qS hF ?_
   refine tO 1 0 m3<|sT [(35,.int .i64 kd)] fun a hF=>cB 0<|qS hF<|eF 0 kd 4<|sT [(47,.bool false)] fun a hF=>cF 47 hF ?_
   refine cS ?_
   rcases(by omega:kd=5∨kd≠5) with hk5|hk5
   ·refine rS hF<|eT 0 kd 5<|sE [(58,.bool true)] fun a hF=>tK<|cT 58 hF ?_
    cases og
    ·refine rS hF<|tQ 1 0 (rc ob oe oh false (.slice ca 0 cc)) m22<|tO 3 3 m3<|tG 5 (Cl _ ob oe oh [] ca cc (r1.zero rfl) (by decide) (decide (n=(1:Int)))) ?_
     rintro _ h37 ⟨_,rfl,jr,f',rfl,aq,hge,g⟩
     replace e0:=(e0.ext g21).grew g24 (sep.l 0)
     replace sep:=sep.up g24.size
     replace e0:=e0.ext g
     replace m3:=m3.x g
     replace m22:=m22.x g
     replace sep:=sep.up g.size
     clear hge g;have hrc:=aq.row;clear aq
     refine tV 10 0 (rc ob oe (decide (n=(1:Int))) false (.slice jr 0 f')) (bl ob oe (decide (n=(1:Int))) false (.slice jr 0 f') (.slice ba od.length bc)) m22 fun h38 fX zq=> ?_
     replace m22:=zq
     refine sE [(6,.int .i64 0)] fun a hF=>bK<|tK<|cS<|qP [(71,.bool true)] hF fun a hF=>cT 71 hF<|cD [0,1,3,7,0,16,0,127] 13 mixed hF ?_
     refine mP 7 [0,1,2] [pV mb,pV mb,pV mb] ?_
     replace e0:=e0.grew fX (sep.l 0)
     refine mO 15 8 3 0 (.map (some mp)) (e0.blk hm)<|mP 31 [4] [.pointer (some ⟨h.size,1,none⟩)] ?_
     replace m3:=m3.y fX (sep.bp 1 0)
     refine mO 63 40 5 1 (.string s) m3<|mR 127 104 6 m22 ?_
     have hpo:=e0.blk hp
     refine jv 255 255 7 (Does.sH (t:=81) (k:=9) (el:=101) (v:= .agg (bl ob oe (decide (n=(1:Int))) false (.slice jr 0 f') (.slice ba od.length bc)).toArray) (by kernel_rfl) (by kernel_rfl) (by kernel_rfl) hpo hs md.nd) ?_
     rintro _ AT ⟨rfl,hh⟩
     have gp:=bD hh
     have hpn:=fD hh hpo
     refine mE [] fun a hF=>tK<|qP [(4,.int .i64 0)] hF fun a hF=>cR<|rT 4 (.int .i64 0) hF ?_
     have zI:=md.ext e0
     have hob:fR W AT s (.agg (bl ob oe (decide (n=(1:Int))) false (.slice jr 0 f') (.slice ba od.length bc)).toArray) ⟨ob,oe,(decide (n=(1:Int))),false,od⟩:=⟨hid,hdl,_,_,_,_,rfl,hrc.zero rfl,(r2.ext e0).mg (MG.BD gp) zI.hm zI.hp⟩
     subst hs
     rw[kN hok (by omega) hf (o':=⟨ob,oe,(decide (n=(1:Int))),false,od⟩) (by first|exact eJ hk.1 |exact eK hk5|exact fC hk hk5 ht)]
     exact⟨rfl,⟨_,_,_,_,_,zI.set gp hpn hob⟩,(MG.aS e0).trans (MG.BD gp)⟩
    ·refine rS hF<|tQ 1 0 (rc ob oe oh true (.slice ca 0 cc)) m22<|tO 3 3 m3<|tG 5 (wA _ ob oe oh [] ca cc (decide (n=(1:Int)))) ?_
     rintro _ h42 ⟨rfl,jw⟩
     replace m22:=m22.x jw
     refine tV 10 0 (rc aC (0:Int) false false (.slice none 0 0)) (bl aC (0:Int) false false (.slice none 0 0) (.slice ba od.length bc)) m22 fun h43 Hu zq=> ?_
     replace m22:=zq
     refine sE [(6,.int .i64 213)] fun a hF=>bK<|tK<|cS<|qP [(71,.bool false)] hF fun a hF=>cF 71 hF<|cN ?_
     refine tK<|qP [(4,.int .i64 213)] hF fun a hF=>cR<|rT 4 (.int .i64 213) hF ?_
     replace e0:=(((e0.ext g21).grew g24 (sep.l 0)).ext jw).grew Hu (sep.l 0)
     rw[fk hok (by omega) hf (z:=213) (by first|exact cz|exact cA hk hk5|exact cE hk hk5 ht) (by decide)];exact⟨rfl,⟨_,_,_,_,_,md.ext e0⟩,MG.aS e0⟩
   ·refine rS hF<|eF 0 kd 5<|sE [(58,.bool false)] fun a hF=>tK<|cF 58 hF ?_
    rcases vf og oh M.t oe with rfl|⟨rfl,rfl⟩|⟨rfl,rfl,ht⟩|⟨rfl,rfl,ht⟩
    ·refine cD [0,1,0,4,12,28,63,127,255,255,511,1535,4095] 7 mixed hF<|mP 1 [0] [pV h19.size]<|mQ 3 2 1 0 (rc ob oe oh true (.slice ca 0 cc)) m22<|mP 31 [2,3,4] [pV mb,pV mb,.pointer (some ⟨mb,2,none⟩)] ?_
     replace e0:=(e0.ext g21).grew g24 (sep.l 0)
     refine mO 63 34 5 2 (.int .i64 M.t) (e0.blk hm)<|fW 127 127 6 (rm _ ob oe oh [] ca cc M.t) ?_
     rintro _ h46 ⟨rfl,gN⟩
     refine mP 2047 [7,8,9,10] [.tuple #[.agg (rc aC (0:Int) false false (.slice none 0 0)).toArray,.int .i64 213],.agg (rc aC (0:Int) false false (.slice none 0 0)).toArray,.int .i64 213,pV h19.size] ?_
     replace m22:=m22.x gN
     refine mV 4095 3583 11 0 (rc aC (0:Int) false false (.slice none 0 0)) (bl aC (0:Int) false false (.slice none 0 0) (.slice ba od.length bc)) m22 fun h47 g48 zq=> ?_
     replace m22:=zq
     refine mP 8191 [12] [.int .i64 213]<|mE [(6,.int .i64 213)] fun a hF=>bK<|tK<|cS<|qP [(71,.bool false)] hF fun a hF=>cF 71 hF ?_
     refine cN<|tK<|qP [(4,.int .i64 213)] hF fun a hF=>cR<|rT 4 (.int .i64 213) hF ?_
     replace e0:=(e0.ext gN).grew g48 (sep.l 0)
     rw[fk hok (by omega) hf (z:=213) (by first|exact cz|exact cA hk hk5|exact cE hk hk5 ht) (by decide)];exact⟨rfl,⟨_,_,_,_,_,md.ext e0⟩,MG.aS e0⟩
    ·refine cD [0,1,0,4,12,28,63,127,255,255,511,1535,4095] 7 mixed hF<|mP 1 [0] [pV h19.size]<|mQ 3 2 1 0 (rc ob oe true false (.slice ca 0 cc)) m22<|mP 31 [2,3,4] [pV mb,pV mb,.pointer (some ⟨mb,2,none⟩)] ?_
     replace e0:=(e0.ext g21).grew g24 (sep.l 0)
     refine mO 63 34 5 2 (.int .i64 M.t) (e0.blk hm)<|fW 127 127 6 (rn _ ob oe [] ca cc M.t) ?_
     rintro _ h50 ⟨rfl,qe⟩
     refine mP 2047 [7,8,9,10] [.tuple #[.agg (rc aC (0:Int) false false (.slice none 0 0)).toArray,.int .i64 214],.agg (rc aC (0:Int) false false (.slice none 0 0)).toArray,.int .i64 214,pV h19.size] ?_
     replace m22:=m22.x qe
     refine mV 4095 3583 11 0 (rc aC (0:Int) false false (.slice none 0 0)) (bl aC (0:Int) false false (.slice none 0 0) (.slice ba od.length bc)) m22 fun Db s5 zq=> ?_
     replace m22:=zq
     refine mP 8191 [12] [.int .i64 214]<|mE [(6,.int .i64 214)] fun a hF=>bK<|tK<|cS<|qP [(71,.bool false)] hF fun a hF=>cF 71 hF ?_
     refine cN<|tK<|qP [(4,.int .i64 214)] hF fun a hF=>cR<|rT 4 (.int .i64 214) hF ?_
     replace e0:=(e0.ext qe).grew s5 (sep.l 0)
     rw[fk hok (by omega) hf (z:=214) (by first|exact cz|exact cA hk hk5|exact cE hk hk5 ht) (by decide)];exact⟨rfl,⟨_,_,_,_,_,md.ext e0⟩,MG.aS e0⟩
    ·refine cD [0,1,0,4,12,28,63,127,255,255,511,1535,4095] 7 mixed hF<|mP 1 [0] [pV h19.size]<|mQ 3 2 1 0 (rc ob oe false false (.slice ca 0 cc)) m22<|mP 31 [2,3,4] [pV mb,pV mb,.pointer (some ⟨mb,2,none⟩)] ?_
     replace e0:=(e0.ext g21).grew g24 (sep.l 0)
     refine mO 63 34 5 2 (.int .i64 M.t) (e0.blk hm)<|fW 127 127 6 (rp _ ob oe [] ca cc M.t ht) ?_
     rintro _ Gc ⟨rfl,kG⟩
     refine mP 2047 [7,8,9,10] [.tuple #[.agg (rc aC (0:Int) false false (.slice none 0 0)).toArray,.int .i64 214],.agg (rc aC (0:Int) false false (.slice none 0 0)).toArray,.int .i64 214,pV h19.size] ?_
     replace m22:=m22.x kG
     refine mV 4095 3583 11 0 (rc aC (0:Int) false false (.slice none 0 0)) (bl aC (0:Int) false false (.slice none 0 0) (.slice ba od.length bc)) m22 fun E5 A1 zq=> ?_
     replace m22:=zq
     refine mP 8191 [12] [.int .i64 214]<|mE [(6,.int .i64 214)] fun a hF=>bK<|tK<|cS<|qP [(71,.bool false)] hF fun a hF=>cF 71 hF ?_
     refine cN<|tK<|qP [(4,.int .i64 214)] hF fun a hF=>cR<|rT 4 (.int .i64 214) hF ?_
     replace e0:=(e0.ext kG).grew A1 (sep.l 0)
     rw[fk hok (by omega) hf (z:=214) (by first|exact cz|exact cA hk hk5|exact cE hk hk5 ht) (by decide)];exact⟨rfl,⟨_,_,_,_,_,md.ext e0⟩,MG.aS e0⟩
    ·refine cD [0,1,0,4,12,28,63,127,255,255,511,1535,4095] 7 mixed hF<|mP 1 [0] [pV h19.size]<|mQ 3 2 1 0 (rc ob oe false false (.slice ca 0 cc)) m22<|mP 31 [2,3,4] [pV mb,pV mb,.pointer (some ⟨mb,2,none⟩)] ?_
     replace e0:=(e0.ext g21).grew g24 (sep.l 0)
     refine mO 63 34 5 2 (.int .i64 M.t) (e0.blk hm)<|fW 127 127 6 (zD _ ob oe [] ca cc (r1.zero rfl) (by decide) M.t ht) ?_
     rintro _ xg ⟨rfl,pB⟩
     refine mP 2047 [7,8,9,10] [.tuple #[.agg (rc ob oe false true (.slice none 0 0)).toArray,.int .i64 0],.agg (rc ob oe false true (.slice none 0 0)).toArray,.int .i64 0,pV h19.size] ?_
     replace m22:=m22.x pB
     refine mV 4095 3583 11 0 (rc ob oe false true (.slice none 0 0)) (bl ob oe false true (.slice none 0 0) (.slice ba od.length bc)) m22 fun NL qg zq=> ?_
     replace m22:=zq
     refine mP 8191 [12] [.int .i64 0]<|mE [(6,.int .i64 0)] fun a hF=>bK<|tK<|cS<|qP [(71,.bool true)] hF fun a hF=>cT 71 hF ?_
     refine cD [0,1,3,7,0,16,0,127] 13 mixed hF<|mP 7 [0,1,2] [pV mb,pV mb,pV mb] ?_
     replace e0:=(e0.ext pB).grew qg (sep.l 0)
     refine mO 15 8 3 0 (.map (some mp)) (e0.blk hm)<|mP 31 [4] [.pointer (some ⟨h.size,1,none⟩)] ?_
     replace m3:=(m3.x pB).y qg (sep.bp 1 0)
     refine mO 63 40 5 1 (.string s) m3<|mR 127 104 6 m22 ?_
     have hpo:=e0.blk hp
     refine jv 255 255 7 (Does.sH (t:=81) (k:=9) (el:=101) (v:= .agg (bl ob oe false true (.slice none 0 0) (.slice ba od.length bc)).toArray) (by kernel_rfl) (by kernel_rfl) (by kernel_rfl) hpo hs md.nd) ?_
     rintro _ NM ⟨rfl,hh⟩
     have gp:=bD hh
     have hpn:=fD hh hpo
     refine mE [] fun a hF=>tK<|qP [(4,.int .i64 0)] hF fun a hF=>cR<|rT 4 (.int .i64 0) hF ?_
     have zI:=md.ext e0
     have hob:fR W NM s (.agg (bl ob oe false true (.slice none 0 0) (.slice ba od.length bc)).toArray) ⟨ob,oe,false,true,od⟩:=⟨hid,hdl,_,_,_,_,rfl,(Row.nil h 4).zero rfl,(r2.ext e0).mg (MG.BD gp) zI.hm zI.hp⟩
     subst hs
     rw[kN hok (by omega) hf (o':=⟨ob,oe,false,true,od⟩) (by first|exact eJ hk.1 |exact eK hk5|exact fC hk hk5 ht)]
     exact⟨rfl,⟨_,_,_,_,_,zI.set gp hpn hob⟩,(MG.aS e0).trans (MG.BD gp)⟩
end Go.Proofs.YtegkejcglfgpmaaGreatDoor
end
section
namespace Go.Proofs.YtegkejcglfgpmaaGreatDoor
open Go Go.an Go.aT
theorem zJ(h:Heap)(b:List UInt8)(va:Option Addr)(vc:Nat)(hr:Row h (.slice va b.length vc) b.length 1 (b.map bv))(hbl:b.length ≤1099511627000)(kt:bH h):Sat Tryz.prog 63 #[.slice va b.length vc] h fun v h'=>v= .agg ((hl (qQ (bN b))).map bv).toArray ∧Ext h h':=by
 rw[mC (eL b)];exact wj h b va vc hr hbl kt
theorem Cn(h:Heap)(s:ByteArray)(n:Nat)(l:List UInt8)(y:RB)(hy:hl y=l)(hs:aP s=true)(hn:n≤512):Sat Tryz.prog 65 #[.string s,.int .i64 ((n:Nat):Int),.agg ((hl y).map bv).toArray] h fun v h'=>∃ad cap,v= .tuple #[.slice ad (dn s n l).length cap,.int .i64 0]∧Own h' (.slice ad (dn s n l).length cap) 5 (dn s n l).length 1 ((dn s n l).map bv)∧(∀k,ad.map (fun(x:Addr)=>x.block)=some k→h.size ≤k)∧Ext h h':=by
 subst hy;exact wE h s n (hl y) hs hn rfl
noncomputable def b32:Code:=Tryz.f32.body.getD .skip
theorem Co{h:Heap}{a:Option Addr}{n c sz:Nat}{xs:List Value}(r:Row h (.slice a n c) n sz xs):Row h (.slice a n n) n sz xs:=by
 refine⟨r.1,?_⟩
 rcases r.2 with⟨e,h0⟩|⟨x,cap,e,_,hx⟩
 ·cases e;exact .inl ⟨rfl,rfl⟩
 ·cases e;exact .inr ⟨x,n,rfl,Nat.le_refl _,hx⟩
theorem _root_.Go.an.Row.zK{h:Heap}{a:Option Addr}{n c sz:Nat}{xs:List Value}(r:Row h (.slice a n c) n sz xs):n≤c:=by
 rcases r.2 with⟨e,h0⟩|⟨x,cap,e,hc,hx⟩
 ·cases e;exact Nat.le_refl _
 ·cases e;exact hc
set_option maxHeartbeats 1000000 in
theorem Cp{W:Nat→Prop}(h:Heap)(mb mp:Nat)(M:Md)(L:List bY)(ck:Nat)(ea:Option Addr)(ec:Nat)(es:List Value)(md:bI W h mb mp M L ck ea ec es)(hW:∀k,W k→k<h.size)(s:ByteArray)(hsz:s.size ≤9223372036854775807)(b:List UInt8)(va:Option Addr)(vc:Nat)(hr:Row h (.slice va b.length vc) b.length 1 (b.map bv))(kt:bH h)(hE:M.E.length ≤1099511627):Sat Tryz.prog 32 #[.pointer (some ⟨mb,0,none⟩),.string s,.slice va b.length vc] h fun v h'=>v= .int .i64 (eG M s b).2 ∧dN W h' mb mp (eG M s b).1 ∧MG mb mp h h':=by
 have hm:=md.hm
 have hp:=md.hp
 have e0:=Ext.refl h
 have dL:=kt.lt
 have sep:Sep h.size h.size []:=Sep.nil _ _
 refine ak Tryz.func32 76 fun a hF=>qP [] hF fun a hF=>cS ?_
 rcases md.find s with⟨hf,hno⟩|⟨A,x,B,o,rfl,hs,hf,hid,hdl,ca,cc,ba,bc,hv,r1,r2⟩
 ·refine rS hF<|tO 3 0 (e0.blk hm)<|tC 5 (.tuple #[.agg (bl aC (0:Int) false false (.slice none 0 0) (.slice none 0 0)).toArray,.bool false]) (pK (t:=81) 9 101 (by kernel_rfl) (by kernel_rfl) (by kernel_rfl) (.agg (bl aC (0:Int) false false (.slice none 0 0) (.slice none 0 0)).toArray) (by kernel_rfl) (e0.blk hp) hno)<|tN 9 (pV h.size) ((bl aC (0:Int) false false (.slice none 0 0) (.slice none 0 0)).toArray) 101 fun h1 g2 m3=> ?_
  replace sep:=sep.nw e0.size m3
  refine bG 10 (bl aC (0:Int) false false (.slice none 0 0) (.slice none 0 0)) m3 fun h4 g5 zq=> ?_
  replace m3:=zq
  refine sE [(8,.bool false)] fun a hF=>tK<|cS<|cB 0<|cS ?_
  rcases Bool.eq_false_or_eq_true (aP s) with hok|hok
  ·refine rS hF<|tC 1 (.bool true) (Does.call (f:=62) (args:= #[.string s]) (by kernel_rfl) (hU _ s hok))<|sE [(21,.bool false)] fun a hF=>tK<|cF 21 hF<|cS ?_
   rcases Nat.lt_or_ge 512 b.length with h_|h_
   ·refine rS hF<|tT 2 ((512:Int)<((b.length :Nat):Int))<|sE [(25,.bool true)] fun a hF=>tK<|cT 25 hF<|qP [(6,.int .i64 5)] hF fun a hF=>cR (yB (yT ?_))
    refine rT 6 (.int .i64 5) hF ?_
    replace e0:=(e0.ext g2).grew g5 (sep.l 0)
    rw[iD hok h_];exact⟨rfl,⟨_,_,_,_,_,md.ext e0⟩,MG.aS e0⟩
   ·refine rS hF<|tX 2 ((512:Int)<((b.length :Nat):Int))<|sE [(25,.bool false)] fun a hF=>tK<|cF 25 hF<|qP [(29,.bool false)] hF fun a hF=>cF 29 hF ?_
    refine cN<|bK<|tK<|cS<|C.mono (K:=fun e a hJ=>∃(JB:Nat),∃(wF:Option Addr) (nt:Nat),e= .normal ∧(Ext h hJ)∧(bH hJ)∧(Own hJ (.slice wF b.length nt) 5 b.length 1 (b.map bv))∧(hJ[h.size]? =some (.cells (bl aC (0:Int) false false (.slice none 0 0) (.slice none 0 0)).toArray 101))∧(hJ[JB]? =some (.cells (bl (ks s ((b.length :Nat):Int) (bN b) ((M.E.length :Nat):Int)) (0:Int) false false (.slice none 0 0) (.slice wF b.length nt)).toArray 101))∧(Sep h.size hJ.size [some JB,wF.map (·.block),some (h.size)])∧Fr a 76 [(0,.pointer (some ⟨mb,0,none⟩)),(1,.string s),(9,.pointer (some ⟨JB,0,none⟩))]) ?_ ?_
    ·refine cD [0,0,2,0,8,0,32,96,224,480,1023,0,2072,8191,0,32767] 8 mixed hF<|mP 239 [0,1,2,3,5,6,7] [.string s,.slice va b.length vc,nV b.length,.slice va b.length vc,pV mb,pV mb,.pointer (some ⟨mb,1,none⟩)] ?_
     replace e0:=(e0.ext g2).grew g5 (sep.l 0)
     refine mO 495 256 8 1 (.slice ea M.E.length ec) (e0.blk hm)<|mP 3055 [9,11] [nV M.E.length,.slice va b.length vc]<|aO.vz (is:=[4,14]) (by kernel_rfl) (by simp) ?_
     intro q hq
     simp only[List.mem_cons,List.not_mem_nil,or_false] at hq
     rcases hq with rfl|rfl
     ·replace kt:=(kt.ext g2).grew g5 (sep.zero 0 rfl dL)
      refine xf 3071 24 4 [8] (Does.call (f:=63) (args:= #[.slice va b.length vc]) (by kernel_rfl) (zJ _ b _ _ (hr.ext e0) (by omega) kt)) ?_
      rintro _ h9 ⟨rfl,g8⟩
      replace e0:=e0.ext g8
      refine⟨?_,?_⟩
      ·intro j hj
       simp only[List.mem_cons,List.not_mem_nil,or_false] at hj
       subst hj
       exact aL (Calm.load (T:=67) (p:=⟨mb,1,none⟩) (by kernel_rfl) (Loads.one (k:=1) (by kernel_rfl) ((ar (e0.blk hm)).trans rfl)))
      refine mP 4095 [10] [.agg (rc (ks s ((b.length :Nat):Int) (bN b) ((M.E.length :Nat):Int)) (0:Int) false false (.slice none 0 0)).toArray]<|aO.vz (is:=[12,14]) (by kernel_rfl) (by simp) ?_
      intro q hq
      simp only[List.mem_cons,List.not_mem_nil,or_false] at hq
      rcases hq with rfl|rfl
      ·refine xf 8191 6168 12 [8] (Does.call (f:=64) (args:= #[.slice va b.length vc]) (by kernel_rfl) (eV _ b b.length _ _ (hr.ext e0) (by omega))) ?_
       rintro _ fc ⟨dF,cy,rfl,aA,E4,g12⟩
       replace sep:=((sep.up g5.size).up g8.size).co g12 E4 aA e0.size
       replace e0:=e0.ext g12
       refine⟨?_,?_⟩
       ·intro j hj
        simp only[List.mem_cons,List.not_mem_nil,or_false] at hj
        subst hj
        exact aL (Calm.load (T:=67) (p:=⟨mb,1,none⟩) (by kernel_rfl) (Loads.one (k:=1) (by kernel_rfl) ((ar (e0.blk hm)).trans rfl)))
       refine mP 16383 [13] [.agg (bl (ks s ((b.length :Nat):Int) (bN b) ((M.E.length :Nat):Int)) (0:Int) false false (.slice none 0 0) (.slice dF b.length cy)).toArray]<|gA 32767 22552 14 [8] (Does.new (v:= .pointer (some ⟨fc.size,0,none⟩)) (o:= .cells (bl aC (0:Int) false false (.slice none 0 0) (.slice none 0 0)).toArray 101) (by kernel_rfl)) ?_
       rintro _ h15 ⟨rfl,hh⟩
       have g16:Ext fc h15:=a8 hh
       have m17:h15[fc.size]? =some (.cells (bl aC (0:Int) false false (.slice none 0 0) (.slice none 0 0)).toArray 101):=bx hh
       clear hh
       replace sep:=sep.nw e0.size m17
       replace e0:=e0.ext g16
       refine⟨?_,?_⟩
       ·intro j hj
        simp only[List.mem_cons,List.not_mem_nil,or_false] at hj
        subst hj
        exact aL (Calm.load (T:=67) (p:=⟨mb,1,none⟩) (by kernel_rfl) (Loads.one (k:=1) (by kernel_rfl) ((ar (e0.blk hm)).trans rfl)))
       refine mV 65535 65535 15 0 (bl (ks s ((b.length :Nat):Int) (bN b) ((M.E.length :Nat):Int)) (0:Int) false false (.slice none 0 0) (.slice dF b.length cy)) (bl (ks s ((b.length :Nat):Int) (bN b) ((M.E.length :Nat):Int)) (0:Int) false false (.slice none 0 0) (.slice dF b.length cy)) m17 fun h18 g19 zq=> ?_
       replace m17:=zq
       refine mE [(9,pV fc.size)] fun a hF=> ?_
       replace sep:=sep.up g19.size
       have js:=sep.pick (l':=[some fc.size,dF.map (·.block),some (h.size)]) [0,1,2] rfl (by decide)
       replace kt:=(((kt.ext g8).ext g12).ext g16).grew g19 (sep.zero 0 rfl dL)
       replace m3:=(((m3.x g8).x g12).x g16).y g19 (sep.bp 2 0)
       replace aA:=(aA.ext g16).k g19 (sep.ap 1 0)
       replace e0:=e0.grew g19 (sep.l 0)
       exact⟨fc.size,dF,cy,rfl,e0,kt,aA,m3,m17,js,hF.to⟩
      ·refine xf 20479 16408 14 [8] (Does.new (v:= .pointer (some ⟨h9.size,0,none⟩)) (o:= .cells (bl aC (0:Int) false false (.slice none 0 0) (.slice none 0 0)).toArray 101) (by kernel_rfl)) ?_
       rintro _ h20 ⟨rfl,hh⟩
       have g21:Ext h9 h20:=a8 hh
       have m22:h20[h9.size]? =some (.cells (bl aC (0:Int) false false (.slice none 0 0) (.slice none 0 0)).toArray 101):=bx hh
       clear hh
       replace sep:=((sep.up g5.size).up g8.size).nw e0.size m22
       replace e0:=e0.ext g21
       refine⟨?_,?_⟩
       ·intro j hj
        simp only[List.mem_cons,List.not_mem_nil,or_false] at hj
        subst hj
        exact aL (Calm.load (T:=67) (p:=⟨mb,1,none⟩) (by kernel_rfl) (Loads.one (k:=1) (by kernel_rfl) ((ar (e0.blk hm)).trans rfl)))
       refine gA 24575 22552 12 [8] (Does.call (f:=64) (args:= #[.slice va b.length vc]) (by kernel_rfl) (eV _ b b.length _ _ (hr.ext e0) (by omega))) ?_
       rintro _ h27 ⟨jM,fY,rfl,aA,Li,gB⟩
       replace sep:=sep.co gB Li aA e0.size
       replace e0:=e0.ext gB
       refine⟨?_,?_⟩
       ·intro j hj
        simp only[List.mem_cons,List.not_mem_nil,or_false] at hj
        subst hj
        exact aL (Calm.load (T:=67) (p:=⟨mb,1,none⟩) (by kernel_rfl) (Loads.one (k:=1) (by kernel_rfl) ((ar (e0.blk hm)).trans rfl)))
       refine mP 32767 [13] [.agg (bl (ks s ((b.length :Nat):Int) (bN b) ((M.E.length :Nat):Int)) (0:Int) false false (.slice none 0 0) (.slice jM b.length fY)).toArray] ?_
       replace m22:=m22.x gB
       refine mV 65535 65535 15 0 (bl (ks s ((b.length :Nat):Int) (bN b) ((M.E.length :Nat):Int)) (0:Int) false false (.slice none 0 0) (.slice jM b.length fY)) (bl (ks s ((b.length :Nat):Int) (bN b) ((M.E.length :Nat):Int)) (0:Int) false false (.slice none 0 0) (.slice jM b.length fY)) m22 fun h28 fp zq=> ?_
       replace m22:=zq
       refine mE [(9,pV h9.size)] fun a hF=> ?_
       replace sep:=sep.up fp.size
       have js:=sep.pick (l':=[some h9.size,jM.map (·.block),some (h.size)]) [1,0,2] rfl (by decide)
       replace kt:=(((kt.ext g8).ext g21).ext gB).grew fp (sep.zero 1 rfl dL)
       replace m3:=(((m3.x g8).x g21).x gB).y fp (sep.bp 2 1)
       replace e0:=e0.grew fp (sep.l 1)
       replace aA:=aA.k fp (sep.ap 0 1)
       exact⟨h9.size,jM,fY,rfl,e0,kt,aA,m3,m22,js,hF.to⟩
     ·refine xf 19439 16384 14 [8] (Does.new (v:= .pointer (some ⟨h4.size,0,none⟩)) (o:= .cells (bl aC (0:Int) false false (.slice none 0 0) (.slice none 0 0)).toArray 101) (by kernel_rfl)) ?_
      rintro _ h30 ⟨rfl,hh⟩
      have eE:Ext h4 h30:=a8 hh
      have m32:h30[h4.size]? =some (.cells (bl aC (0:Int) false false (.slice none 0 0) (.slice none 0 0)).toArray 101):=bx hh
      clear hh
      replace sep:=(sep.up g5.size).nw e0.size m32
      replace e0:=e0.ext eE
      refine⟨?_,?_⟩
      ·intro j hj
       simp only[List.mem_cons,List.not_mem_nil,or_false] at hj
       subst hj
       exact aL (Calm.load (T:=67) (p:=⟨mb,1,none⟩) (by kernel_rfl) (Loads.one (k:=1) (by kernel_rfl) ((ar (e0.blk hm)).trans rfl)))
      replace kt:=((kt.ext g2).grew g5 (sep.zero 1 rfl dL)).ext eE
      refine gA 19455 16408 4 [8] (Does.call (f:=63) (args:= #[.slice va b.length vc]) (by kernel_rfl) (zJ _ b _ _ (hr.ext e0) (by omega) kt)) ?_
      rintro _ uA ⟨rfl,gM⟩
      replace e0:=e0.ext gM
      refine⟨?_,?_⟩
      ·intro j hj
       simp only[List.mem_cons,List.not_mem_nil,or_false] at hj
       subst hj
       exact aL (Calm.load (T:=67) (p:=⟨mb,1,none⟩) (by kernel_rfl) (Loads.one (k:=1) (by kernel_rfl) ((ar (e0.blk hm)).trans rfl)))
      refine mP 20479 [10] [.agg (rc (ks s ((b.length :Nat):Int) (bN b) ((M.E.length :Nat):Int)) (0:Int) false false (.slice none 0 0)).toArray]<|gA 24575 22552 12 [8] (Does.call (f:=64) (args:= #[.slice va b.length vc]) (by kernel_rfl) (eV _ b b.length _ _ (hr.ext e0) (by omega))) ?_
      rintro _ Hv ⟨jr,f',rfl,aA,Lj,kF⟩
      replace sep:=(sep.up gM.size).co kF Lj aA e0.size
      replace e0:=e0.ext kF
      refine⟨?_,?_⟩
      ·intro j hj
       simp only[List.mem_cons,List.not_mem_nil,or_false] at hj
       subst hj
       exact aL (Calm.load (T:=67) (p:=⟨mb,1,none⟩) (by kernel_rfl) (Loads.one (k:=1) (by kernel_rfl) ((ar (e0.blk hm)).trans rfl)))
      refine mP 32767 [13] [.agg (bl (ks s ((b.length :Nat):Int) (bN b) ((M.E.length :Nat):Int)) (0:Int) false false (.slice none 0 0) (.slice jr b.length f')).toArray] ?_
      replace m32:=(m32.x gM).x kF
      refine mV 65535 65535 15 0 (bl (ks s ((b.length :Nat):Int) (bN b) ((M.E.length :Nat):Int)) (0:Int) false false (.slice none 0 0) (.slice jr b.length f')) (bl (ks s ((b.length :Nat):Int) (bN b) ((M.E.length :Nat):Int)) (0:Int) false false (.slice none 0 0) (.slice jr b.length f')) m32 fun AT jw zq=> ?_
      replace m32:=zq
      refine mE [(9,pV h4.size)] fun a hF=> ?_
      replace sep:=sep.up jw.size
      have js:=sep.pick (l':=[some h4.size,jr.map (·.block),some (h.size)]) [1,0,2] rfl (by decide)
      replace m3:=(((m3.x eE).x gM).x kF).y jw (sep.bp 2 1)
      replace kt:=((kt.ext gM).ext kF).grew jw (sep.zero 1 rfl dL)
      replace e0:=e0.grew jw (sep.l 1)
      replace aA:=aA.k jw (sep.ap 0 1)
      exact⟨h4.size,jr,f',rfl,e0,kt,aA,m3,m32,js,hF.to⟩
    ·clear hF a e0 kt m3 sep
     rintro e a h42 ⟨JB,wF,nt,rfl,e0,kt,aA,m3,Hw,sep,hF⟩
     refine tK<|qS hF<|tO 3 1 Hw<|tQ 6 2 ((hl (ks s ((b.length :Nat):Int) (bN b) ((M.E.length :Nat):Int))).map bv) Hw<|tG 7 (Cn _ s b.length (bN b) (ks s ((b.length :Nat):Int) (bN b) ((M.E.length :Nat):Int)) (yU (eL b)) hok (by omega)) ?_
     rintro _ h47 ⟨E6,zL,rfl,bT,Lk,gN⟩
     replace sep:=sep.co gN Lk bT e0.size
     refine sT [(10,.slice E6 ((dn s b.length (bN b)).length) zL),(11,.int .i64 0)] fun a hF=>cS<|qP [(57,.bool true)] hF fun a hF=>cT 57 hF<|cS<|cD [0,1,3,7,0,0,63] 11 mixed hF<|mP 7 [0,1,2] [pV mb,pV mb,pV mb] ?_
     replace e0:=e0.ext gN
     refine mO 15 8 3 0 (.map (some mp)) (e0.blk hm)<|mP 31 [4] [.string s] ?_
     replace Hw:=Hw.x gN
     refine mR 63 40 5 Hw ?_
     have hpo:=e0.blk hp
     have hmo:=e0.blk hm
     have hbm:=ag hm
     have hbp:=ag hp
     refine jv 127 127 6 (Does.sG (t:=81) (k:=9) (el:=101) (v:= .agg (bl (ks s ((b.length :Nat):Int) (bN b) ((M.E.length :Nat):Int)) (0:Int) false false (.slice none 0 0) (.slice wF b.length nt)).toArray) (by kernel_rfl) (by kernel_rfl) (by kernel_rfl) hpo hno) ?_
     rintro _ h48 ⟨rfl,hh⟩
     have gp:=bD hh
     have hpn:=fD hh hpo
     have hm2:=gp.blk hmo (fun e=>md.ne (Option.some.inj e))
     have g0:MG mb mp h h48:=(MG.aS e0).trans (MG.BD gp)
     replace aA:=aA.ext gN
     replace aA:=aA.kept gp (by rw[aj];right;intro e;have:=sep.low 2 rfl _ e;omega)
     replace bT:=bT.kept gp (by rw[aj];right;intro e;have:=sep.low 0 rfl _ e;omega)
     replace sep:=sep.up gp.size
     have PL:=Nat.le_trans e0.size gp.size
     clear hh
     refine mE [] fun a hF=>tK<|rS hF<|tO 4 1 hm2<|tC 5 (.slice ea M.E.length M.E.length) (Does.call (f:=66) (args:= #[.slice ea M.E.length ec]) (by kernel_rfl) (zE _ M.E.length ea ec md.er.1.1.zK)) ?_
     have her:=(md.er.ext e0).mg (MG.BD gp) hmo hpo
     refine tN 7 (.slice (some ⟨h48.size,0,none⟩) 1 1) #[.slice E6 ((dn s b.length (bN b)).length) zL] 32 fun FV nS JC=> ?_
     replace sep:=sep.nw g0.1 JC
     replace her:=her.ext nS
     refine tF 8 (Does.sX (t:=67) (E:=32) (sz:=1) (dT:=24) (n:=M.E.length) (m:=1) (xs:=es) (ys:=[.slice E6 ((dn s b.length (bN b)).length) zL]) (by kernel_rfl) (by kernel_rfl) (Co her.1.1) (Row.blk JC rfl) (List.all_eq_true.1 (by rfl)) (by decide) (by unfold maxLen;omega) (by omega)) ?_
     rintro _ Gc ⟨oq,nu,rfl,bP,hbn,g⟩
     replace g0:=g0.ext nS
     have Ll:∀k,(some oq).map (fun(x:Addr)=>x.block)=some k→h.size ≤k:=fun k e=>by have e2:oq.block =k:=(by simpa using e);have:=g0.1;omega
     replace kt:=kt.ext gN
     replace m3:=m3.x gN
     replace aA:=aA.ext nS
     replace bT:=bT.ext nS
     replace hpn:=nS.blk hpn
     replace hm2:=hm2.x nS
     replace aA:=aA.ext g
     replace bT:=bT.ext g
     replace g0:=g0.ext g
     replace hpn:=g.blk hpn
     replace her:=her.ext g
     replace hm2:=hm2.x g
     replace JC:=JC.x g
     replace sep:=sep.up g.size
     clear g
     refine tW 11 1 ([.slice (some oq) (M.E.length +1) nu]) ([.map (some mp),.slice ea M.E.length ec,.int .i64 M.t]) ([.map (some mp),.slice (some oq) (M.E.length +1) nu,.int .i64 M.t]) hm2 (fun E5 gm hmD=> ?_)
     refine sE [] fun a hF=>tK<|qP [(6,.int .i64 0)] hF fun a hF=>cR<|rT 6 (.int .i64 0) hF ?_
     have hel:=jV s b.length (eL b)
     have hsl:=iB hok
     have hob:fR W Gc s (.agg (bl (ks s ((b.length :Nat):Int) (bN b) ((M.E.length :Nat):Int)) (0:Int) false false (.slice none 0 0) (.slice wF b.length nt)).toArray) (sW s b M.E.length):=⟨rfl,h_,_,_,_,_,rfl,(Row.nil h 4).zero rfl,cj.new aA (by decide) hW (sep.low 3 rfl)⟩
     have hfin:=md.KR g0 hpn hm2 hno hob (cj.new bP (by decide) hW Ll) (by omega) (cj.new bT (by decide) hW (sep.low 1 rfl)) gm hmD
     rw[jX hok h_ hf];exact⟨rfl,hfin.1,hfin.2⟩
  ·refine rS hF<|tC 1 (.bool false) (Does.call (f:=62) (args:= #[.string s]) (by kernel_rfl) (j_ _ s hsz hok))<|sE [(21,.bool true)] fun a hF=>tK<|cT 21 hF<|qP [(6,.int .i64 210)] hF fun a hF=>cR (yB (yT ?_))
   refine rT 6 (.int .i64 210) hF ?_
   replace e0:=(e0.ext g2).grew g5 (sep.l 0)
   rw[pL hok];exact⟨rfl,⟨_,_,_,_,_,md.ext e0⟩,MG.aS e0⟩
 ·refine rS hF<|tO 3 0 (e0.blk hm)<|tC 5 (.tuple #[.agg (bl o.b o.e o.ho o.go (.slice ca 0 cc) (.slice ba o.dt.length bc)).toArray,.bool true]) (iC (t:=81) 9 101 (by kernel_rfl) (by kernel_rfl) (by kernel_rfl) (.agg (bl aC (0:Int) false false (.slice none 0 0) (.slice none 0 0)).toArray) (by kernel_rfl) (e0.blk hp) (List.mem_append_right _ (List.mem_cons_self ..)) hs md.nd hv)<|tN 9 (pV h.size) ((bl aC (0:Int) false false (.slice none 0 0) (.slice none 0 0)).toArray) 101 fun C' pB Lm=> ?_
  replace sep:=sep.nw e0.size Lm
  refine bG 10 (bl o.b o.e o.ho o.go (.slice ca 0 cc) (.slice ba o.dt.length bc)) Lm fun NL qg zq=> ?_
  replace Lm:=zq
  refine sE [(8,.bool true)] fun a hF=>tK<|cS<|cB 0<|cS ?_
  rcases Bool.eq_false_or_eq_true (aP s) with hok|hok
  ·refine rS hF<|tC 1 (.bool true) (Does.call (f:=62) (args:= #[.string s]) (by kernel_rfl) (hU _ s hok))<|sE [(21,.bool false)] fun a hF=>tK<|cF 21 hF<|cS ?_
   rcases Nat.lt_or_ge 512 b.length with h_|h_
   ·refine rS hF<|tT 2 ((512:Int)<((b.length :Nat):Int))<|sE [(25,.bool true)] fun a hF=>tK<|cT 25 hF<|qP [(6,.int .i64 5)] hF fun a hF=>cR (yB (yT ?_))
    refine rT 6 (.int .i64 5) hF ?_
    replace e0:=(e0.ext pB).grew qg (sep.l 0)
    rw[iD hok h_];exact⟨rfl,⟨_,_,_,_,_,md.ext e0⟩,MG.aS e0⟩
   ·refine rS hF<|tX 2 ((512:Int)<((b.length :Nat):Int))<|sE [(25,.bool false)] fun a hF=>tK<|cF 25 hF<|qP [(29,.bool true)] hF fun a hF=>cT 29 hF ?_
    refine qP [(6,.int .i64 212)] hF fun a hF=>cR (yB (yT ?_))
    refine rT 6 (.int .i64 212) hF ?_
    replace e0:=(e0.ext pB).grew qg (sep.l 0)
    rw[jl hok h_ hf];exact⟨rfl,⟨_,_,_,_,_,md.ext e0⟩,MG.aS e0⟩
  ·refine rS hF<|tC 1 (.bool false) (Does.call (f:=62) (args:= #[.string s]) (by kernel_rfl) (j_ _ s hsz hok))<|sE [(21,.bool true)] fun a hF=>tK<|cT 21 hF<|qP [(6,.int .i64 210)] hF fun a hF=>cR (yB (yT ?_))
   refine rT 6 (.int .i64 210) hF ?_
   replace e0:=(e0.ext pB).grew qg (sep.l 0)
   rw[pL hok];exact⟨rfl,⟨_,_,_,_,_,md.ext e0⟩,MG.aS e0⟩
end Go.Proofs.YtegkejcglfgpmaaGreatDoor
end
section
namespace Go.Proofs.YtegkejcglfgpmaaGreatDoor
open Go Go.an Go.aT
noncomputable def PM:Code:=Tryz.f124.body.getD .skip
theorem vg(h:Heap)(x:Int):Sat Tryz.prog 124 #[.int .i64 x] h fun v h'=>v= .bool false∧h'=h:=by
 refine ak Tryz.func124 6 fun a hF=>qP [] hF fun a hF=>qS hF<|uF 2 x x<|sT [(2,.bool false)] fun a hF=>cR<|rT 2 (.bool false) hF ?_
 exact⟨rfl,rfl⟩
noncomputable def PN:Code:=Tryz.f109.body.getD .skip
theorem rv(h:Heap)(x y:Int):Sat Tryz.prog 109 #[.int .i64 x,.int .i64 y] h fun v h'=>v= .int .i64 (ek x y)∧h'=h:=by
 refine ak Tryz.func109 20 fun a hF=>qP [] hF fun a hF=>qS hF<|tC 1 (.bool false) (Does.call (f:=124) (args:= #[.int .i64 x]) (by kernel_rfl) (vg _ x))<|sT [(5,.bool false)] fun a hF=>qS hF<|tC 1 (.bool false) (Does.call (f:=124) (args:= #[.int .i64 y]) (by kernel_rfl) (vg _ y)) ?_
 refine sT [(6,.bool false)] fun a hF=>cS<|qP [(11,.bool false)] hF fun a hF=>cF 11 hF<|cN<|tK<|cS ?_
 refine qP [(13,.bool false)] hF fun a hF=>cF 13 hF<|cN<|tK<|cS<|qP [(16,.bool (decide (x<y)))] hF fun a hF=>cJ 16 hF (fun hc1=> ?_) fun hc1=> ?_
 ·refine qP [(4,.int .i64 (-1))] hF fun a hF=>cR (yT ?_)
  exact rT 4 (.int .i64 (-1)) hF<|⟨congrArg (Value.int .i64) (by unfold ek;split<;>first|omega| (split<;>omega)),rfl⟩
 ·refine cN<|tK<|cS<|qP [(19,.bool (decide (y<x)))] hF fun a hF=>cJ 19 hF (fun hc2=> ?_) fun hc2=> ?_
  ·refine qP [(4,.int .i64 1)] hF fun a hF=>cR (yT ?_)
   exact rT 4 (.int .i64 1) hF<|⟨congrArg (Value.int .i64) (by unfold ek;split<;>first|omega| (split<;>omega)),rfl⟩
  ·exact cN<|tK<|qP [(4,.int .i64 0)] hF fun a hF=>cR<|rT 4 (.int .i64 0) hF<|⟨congrArg (Value.int .i64) (by unfold ek;split<;>first|omega| (split<;>omega)),rfl⟩
noncomputable def PO:Code:=Tryz.f111.body.getD .skip
theorem rz(h:Heap)(s t:ByteArray):Sat Tryz.prog 111 #[.string s,.string t] h fun v h'=>v= .int .i64 (Lib.compareBytes s.data.toList t.data.toList)∧h'=h:=by
 refine ak Tryz.func111 8 fun a hF=>qP [] hF fun a hF=>qS hF<|t1 2 (.int .i64 (Lib.compareBytes s.data.toList t.data.toList)) (.int .i64 (Extern.BytealgCompare.cmp s t)) (congrArg (Value.int .i64) (Lib.cmp_eq s t))<|sT [(4,.int .i64 (Lib.compareBytes s.data.toList t.data.toList))] fun a hF=>cR<|rT 4 (.int .i64 (Lib.compareBytes s.data.toList t.data.toList)) hF ?_
 exact⟨rfl,rfl⟩
noncomputable def b74:Code:=Tryz.f74.body.getD .skip
theorem pT(h:Heap)(s t:ByteArray):Sat Tryz.prog 74 #[.string s,.string t] h fun v h'=>v= .int .i64 (Lib.compareBytes s.data.toList t.data.toList)∧h'=h:=by
 refine ak Tryz.func74 8 fun a hF=>qP [] hF fun a hF=>qS hF<|tC 2 (.int .i64 (Lib.compareBytes s.data.toList t.data.toList)) (Does.call (f:=111) (args:= #[.string s,.string t]) (by kernel_rfl) (rz _ s t))<|sT [(4,.int .i64 (Lib.compareBytes s.data.toList t.data.toList))] fun a hF=>cR<|rT 4 (.int .i64 (Lib.compareBytes s.data.toList t.data.toList)) hF ?_
 exact⟨rfl,rfl⟩
noncomputable def PQ:Code:=Tryz.f108.body.getD .skip
theorem E7(h:Heap)(b:Nat)(p q:Int)(m:h[b]? =some (.cells #[.int .i64 p,.int .i64 q] 3)):Sat Tryz.prog 108 #[.slice (some ⟨b,0,none⟩) 2 2] h fun v h'=>v= .int .i64 (if p=0 then q else p)∧h'=h:=by
 refine ak Tryz.func108 18 fun a hF=>qP [] hF fun a hF=>qP [(3,.int .i64 0)] hF fun a hF=>cS<|qP [(6,.slice (some ⟨b,0,none⟩) 2 2),(7,.int .i64 2),(8,.int .i64 0)] hF fun a hF=>cB 0<|cU 3 ?_
 refine az.step <|qP [(9,.bool true)] hF fun a hF=>cS<|cT 9 hF<|cN<|tK<|cS ?_
 refine cB 1<|qS hF<|tJ 0 b 0 2 1 0 0<|tO 1 0 m<|sT [(5,.int .i64 p)] fun a hF=>qP [(14,.bool (!decide (p=(0:Int))))] hF fun a hF=>cI 14 hF (fun hc1=> ?_) fun hc1=> ?_
 ·refine qP [(2,.int .i64 p)] hF fun a hF=>cR (yB (yT (yT (yB (yT ?_)))))
  exact rT 2 (.int .i64 p) hF<|⟨congrArg (Value.int .i64) (by split<;>omega),rfl⟩
 ·refine cN<|bK<|tK<|rP [(8,.int .i64 1)] hF fun a hF=>tK (az.step ?_)
  refine qP [(9,.bool true)] hF fun a hF=>cS<|cT 9 hF<|cN<|tK<|cS<|cB 1 ?_
  refine qS hF<|tJ 0 b 0 2 1 1 1<|tO 1 1 m<|sT [(5,.int .i64 q)] fun a hF=>qP [(14,.bool (!decide (q=(0:Int))))] hF fun a hF=>cI 14 hF (fun hc2=> ?_) fun hc2=> ?_
  ·refine qP [(2,.int .i64 q)] hF fun a hF=>cR (yB (yT (yT (yB (yT ?_)))))
   exact rT 2 (.int .i64 q) hF<|⟨congrArg (Value.int .i64) (by split<;>omega),rfl⟩
  ·refine cN<|bK<|tK<|rP [(8,.int .i64 2)] hF fun a hF=>tK (az.step ?_)
   refine qP [(9,.bool false)] hF fun a hF=>cS<|cF 9 hF<|cX 0 (xT (xT (xB ?_)))
   exact tK<|qP [(2,.int .i64 0)] hF fun a hF=>cR<|rT 2 (.int .i64 0) hF<|⟨congrArg (Value.int .i64) (by split<;>omega),rfl⟩
noncomputable def PR:Code:=Tryz.f107.body.getD .skip
theorem ib(h:Heap)(r s:Rec):Sat Tryz.prog 107 #[.agg (rcs r).toArray,.agg (rcs s).toArray] h fun v h'=>v= .int .i64 (eS r s)∧Ext h h':=by
 have e0:=Ext.refl h
 refine ak Tryz.func107 17 fun a hF=>qS hF<|tN 0 (pV h.size) ((rcs r).toArray) 95 fun h1 g2 m3=> ?_
 have oH:=ag m3
 have oI:=e0.size
 replace e0:=e0.ext g2
 refine tN 1 (pV h1.size) ((rcs s).toArray) 95 fun h6 g7 m8=> ?_
 have D9:=ag m8
 have qt:=e0.size
 replace e0:=e0.ext g7
 replace m3:=m3.x g7
 refine sT [(2,pV h.size),(3,pV h1.size)] fun a hF=>cS<|cD [0,1,0,4,15,0,32,0,128,511,1023,2047,4095] 1 mixed hF<|mP 1 [0] [.pointer (some ⟨h.size,35,none⟩)]<|mO 3 2 1 35 (.int .i64 r.e) m3<|mP 7 [2] [.pointer (some ⟨h1.size,35,none⟩)]<|mO 15 10 3 35 (.int .i64 s.e) m8 ?_
 refine mL 31 26 4 (.int .i64 (ek r.e s.e)) (Does.call (f:=109) (args:= #[.int .i64 r.e,.int .i64 s.e]) (by kernel_rfl) (rv _ r.e s.e))<|mP 63 [5] [pV h.size]<|mO 127 90 6 0 (.string r.b.id) m3<|mP 255 [7] [pV h1.size]<|mO 511 346 8 0 (.string s.b.id) m8<|mL 1023 858 9 (.int .i64 (Lib.compareBytes r.b.id.data.toList s.b.id.data.toList)) (Does.call (f:=74) (args:= #[.string r.b.id,.string s.b.id]) (by kernel_rfl) (pT _ r.b.id s.b.id))<|mN 2047 2047 10 (.slice (some ⟨h6.size,0,none⟩) 2 2) #[.int .i64 (ek r.e s.e),.int .i64 (Lib.compareBytes r.b.id.data.toList s.b.id.data.toList)] 3 fun h11 g12 m13=> ?_
 have Bc:=ag m13
 have Bd:=e0.size
 replace e0:=e0.ext g12
 replace m3:=m3.x g12
 replace m8:=m8.x g12
 exact mL 4095 2906 11 (.int .i64 (if (ek r.e s.e)=0 then (Lib.compareBytes r.b.id.data.toList s.b.id.data.toList) else (ek r.e s.e))) (Does.call (f:=108) (args:= #[.slice (some ⟨h6.size,0,none⟩) 2 2]) (by kernel_rfl) (E7 _ _ (ek r.e s.e) (Lib.compareBytes r.b.id.data.toList s.b.id.data.toList) m13))<|mP 8191 [12] [.int .i64 (if (ek r.e s.e)=0 then (Lib.compareBytes r.b.id.data.toList s.b.id.data.toList) else (ek r.e s.e))]<|mE [(4,.int .i64 (if (ek r.e s.e)=0 then (Lib.compareBytes r.b.id.data.toList s.b.id.data.toList) else (ek r.e s.e)))] fun a hF=>tK<|cR<|rT 4 (.int .i64 (if (ek r.e s.e)=0 then (Lib.compareBytes r.b.id.data.toList s.b.id.data.toList) else (ek r.e s.e))) hF<|⟨rfl,e0⟩
noncomputable def PS:Code:=Tryz.f139.body.getD .skip
set_option maxHeartbeats 1000000 in
theorem vh(h:Heap)(ad:Option Addr)(cap n la lb:Nat)(L:List Rec)(ae:Own h (.slice ad n cap) 95 n 39 (a_ L))(hLn:L.length =n)(hb:lb≤n)(ha:la≤n)(hn:n≤1099511627776):Sat Tryz.prog 139 #[.slice ad n cap,.int .i64 ((la:Nat):Int),.int .i64 ((lb:Nat):Int),.func (.func 107) #[] #[]] h fun _ h'=>∃M,M.length =n∧M.Perm L∧(∀p,p<la∨lb≤p→M.getD p ai=L.getD p ai)∧bA M la lb∧Own h' (.slice ad n cap) 95 n 39 (a_ M)∧Grew (ad.map (fun(x:Addr)=>x.block)) h h':=by
 have g0:=Grew.refl (ad.map (fun(x:Addr)=>x.block)) h
 refine ak Tryz.func139 53 fun a hF=>qS hF<|tA 1 la 1<|sT [(8,nV (la+1))] fun a hF=>cB 0<|cL (fun m a h'=>∃i:Nat,∃M:List Rec,m=lb - i∧(Grew (ad.map (fun(x:Addr)=>x.block)) h h')∧(la<i∧(i≤lb∨i=la+1))∧(M.length =n)∧(M.Perm L)∧(∀p,p<la∨lb≤p→M.getD p ai=L.getD p ai)∧(bA M la i)∧(Own h' (.slice ad n cap) 95 n 39 (a_ M))∧(Fr a 53 [(0,.slice ad n cap),(1,.int .i64 ((la:Nat):Int)),(2,.int .i64 ((lb:Nat):Int)),(3,.func (.func 107) #[] #[]),(8,.int .i64 ((i:Nat):Int))])) (lb - (la+1)) ⟨(la+1),L,rfl,g0,(by omega),hLn,(List.Perm.refl _),(fun _ _=>rfl),(bA.one L la),ae,hF.to⟩ ?_
 clear hF a
 clear g0
 clear hLn
 clear ae
 rintro m a h1 ⟨i,M,rfl,g0,hi,hM,hP,hout,hs,ae,hF⟩
 refine cS<|qP [(14,.bool (decide (((i:Nat):Int)<((lb:Nat):Int))))] hF fun a hF=>cJ 14 hF (fun hc2=> ?_) fun hc2=> ?_
 ·refine cN<|tK<|cS<|cB 1<|qP [(9,nV i)] hF fun a hF=>cB 2 ?_
  have hib:i<lb:=by omega
  refine cL (fun m a h'=>∃j:Nat,∃M:List Rec,m=j+1∧(Grew (ad.map (fun(x:Addr)=>x.block)) h h')∧(la≤j∧j≤i)∧(M.length =n)∧(M.Perm L)∧(∀p,p<la∨lb≤p→M.getD p ai=L.getD p ai)∧(sO M la i j)∧(Own h' (.slice ad n cap) 95 n 39 (a_ M))∧(Fr a 53 [(0,.slice ad n cap),(1,.int .i64 ((la:Nat):Int)),(2,.int .i64 ((lb:Nat):Int)),(3,.func (.func 107) #[] #[]),(8,.int .i64 ((i:Nat):Int)),(9,.int .i64 ((j:Nat):Int))])) (i+1) ⟨i,M,rfl,g0,(by omega),hM,hP,hout,hs.ins,ae,hF.to⟩ ?_
  clear hF a
  clear g0
  clear hM
  clear hP
  clear hout
  clear ae
  rintro m a h3 ⟨j,M,rfl,g0,hj,hM,hP,hout,hins,ae,hF⟩
  refine cS<|cS ?_
  rcases Nat.lt_or_ge la j with haj|haj
  ·obtain⟨aa,rfl,b3⟩:=ae.a6 (by omega)
   refine cD [0,0,3,7,15,15,15,111,239,15,15,1039,3599,7695,16383,32767,65535] 4 mixed hF<|mP 3 [0,1] [nV j,nV la]<|FQ 7 2 (((la:Nat):Int)<((j:Nat):Int))<|mP 127 [3,4,5,6] [.bool true,.func (.func 107) #[] #[],.slice (some aa) n cap,nV j]<|mI 255 7 aa n 39 j (j*39)<|mY 511 256 8 j ai bg (ae.row)<|mP 2047 [9,10] [.slice (some aa) n cap,nV j] ?_
   refine mU 4095 11 j 1<|mI 8191 12 aa n 39 (j - 1) ((j - 1)*39)<|mY 16383 8448 13 (j - 1) ai bg (ae.row)<|jv 32767 32767 14 (Does.call (f:=107) (args:= #[.agg (rcs (M.getD j ai)).toArray,.agg (rcs (M.getD (j - 1) ai)).toArray]) (by kernel_rfl) (ib _ (M.getD j ai) (M.getD (j - 1) ai))) ?_
   rintro _ h4 ⟨rfl,g⟩
   replace g0:=g0.trans (g.but _)
   replace ae:=ae.ext g
   clear g
   refine mP 131071 [15,16] [.bool (decide ((eS (M.getD j ai) (M.getD (j - 1) ai))<(0:Int))),.bool (decide ((eS (M.getD j ai) (M.getD (j - 1) ai))<(0:Int)))]<|mE [(34,.bool (decide ((eS (M.getD j ai) (M.getD (j - 1) ai))<(0:Int))))] fun a hF=>tK<|cJ 34 hF (fun hc5=> ?_) fun hc5=> ?_
   ·refine cN<|tK<|cS<|cB 3<|cD [0,0,0,0,8,0,0,64,224,480,0,0,3072,7168,16355,32739,65535,131071] 6 mixed hF<|mP 15 [0,1,2,3] [.slice (some aa) n cap,nV j,.slice (some aa) n cap,nV j]<|mU 31 4 j 1 ?_
    refine mP 127 [5,6] [.slice (some aa) n cap,nV j]<|mU 255 7 j 1<|mI 511 8 aa n 39 (j - 1) ((j - 1)*39)<|mY 1023 512 9 (j - 1) ai bg (ae.row)<|mP 4095 [10,11] [.slice (some aa) n cap,nV j]<|mI 8191 12 aa n 39 j (j*39)<|mY 16383 8704 13 j ai bg (ae.row) ?_
    refine mI 32767 14 aa n 39 j (j*39)<|jv 65535 65507 15 (Does.c5 (a:=aa) (q:=j*39) (vs:=rcs (M.getD (j - 1) ai)) (by kernel_rfl) ae (by show _+39≤_;omega) (dC _)) ?_
    rintro _ h6 ⟨rfl,aq,g⟩
    replace g0:=g0.trans g
    rw[gS bg (by first|omega| (rw[List.length_set];omega))] at aq
    clear ae;have ae:=aq;clear aq g
    refine mI 131071 16 aa n 39 (j - 1) ((j - 1)*39)<|jv 262143 262143 17 (Does.c5 (a:=aa) (q:=(j - 1)*39) (vs:=rcs (M.getD j ai)) (by kernel_rfl) ae (by show _+39≤_;omega) (dC _)) ?_
    rintro _ h7 ⟨rfl,aq,g⟩
    replace g0:=g0.trans g
    rw[gS bg (by first|omega| (rw[List.length_set];omega))] at aq
    clear ae;have ae:=aq;clear aq g
    refine mE [] fun a hF=>bK<|tK<|rS hF<|tU 1 j 1<|sE [(9,nV (j - 1))] fun a hF=> ?_
    show ∃m',m'<_∧_
    refine⟨_,?_,(j - 1),(swp M j),rfl,g0,(by omega),((sP M j).trans hM),((yp (by omega) (by omega)).trans hP),(fun p hp=>by rw[swp_get (by omega) (by omega),if_neg (by omega),if_neg (by omega)];exact hout p hp),(hins.step (by omega) (by omega) (by omega) (by omega)),ae,hF.to⟩
    omega
   ·have hs:=hins.done (by omega) (by omega) (.inr (by omega))
    clear hins
    refine cX 2 (xT (xT (xB ?_)))
    refine bK<|tK<|rS hF<|tA 1 i 1<|sE [(8,nV (i+1))] fun a hF=> ?_
    show ∃m',m'<_∧_
    refine⟨_,?_,(i+1),M,rfl,g0,(by omega),hM,hP,hout,hs,ae,hF.to⟩
    omega
  ·have hs:=hins.done (by omega) (by omega) (.inl (by omega))
   clear hins
   refine cD [0,0,3,7,15,15,15,111,239,15,15,1039,3599,7695,16383,32767,65535] 4 mixed hF<|mP 3 [0,1] [nV j,nV la]<|I' 7 2 (((la:Nat):Int)<((j:Nat):Int))<|mP 131071 [3,4,5,6,7,8,9,10,11,12,13,14,15,16] [.bool false,undef,undef,undef,undef,undef,undef,undef,undef,undef,undef,undef,undef,.bool false]<|mE [(34,.bool false)] fun a hF=>tK<|cF 34 hF ?_
   refine cX 2 (xT (xT (xB ?_)))
   refine bK<|tK<|rS hF<|tA 1 i 1<|sE [(8,nV (i+1))] fun a hF=> ?_
   show ∃m',m'<_∧_
   refine⟨_,?_,(i+1),M,rfl,g0,(by omega),hM,hP,hout,hs,ae,hF.to⟩
   omega
 ·refine cX 0 (xT (xT (xB ?_)))
  exact n0 hF<|⟨M,hM,hP,hout,fun p q h1 h2 h3=>hs p q h1 h2 (by omega),ae,g0⟩
end Go.Proofs.YtegkejcglfgpmaaGreatDoor
end
section
namespace Go.Proofs.YtegkejcglfgpmaaGreatDoor
open Go Go.an Go.aT
noncomputable def PT:Code:=Tryz.f148.body.getD .skip
set_option maxHeartbeats 1000000 in
theorem pU(h:Heap)(ad:Option Addr)(cap n la lb lc:Nat)(L:List Rec)(ae:Own h (.slice ad n cap) 95 n 39 (a_ L))(hLn:L.length =n)(hac:la+lc≤lb)(hbc:lb+lc≤n)(hn:n≤1099511627776):Sat Tryz.prog 148 #[.slice ad n cap,.int .i64 ((la:Nat):Int),.int .i64 ((lb:Nat):Int),.int .i64 ((lc:Nat):Int),.func (.func 107) #[] #[]] h fun _ h'=>∃M,M.length =n∧M.Perm L∧Idx M L (rY la lb lc)∧Own h' (.slice ad n cap) 95 n 39 (a_ M)∧Grew (ad.map (fun(x:Addr)=>x.block)) h h':=by
 have g0:=Grew.refl (ad.map (fun(x:Addr)=>x.block)) h
 refine ak Tryz.func148 38 fun a hF=>qP [(10,.int .i64 0)] hF fun a hF=>cB 0<|cL (fun m a h'=>∃i:Nat,∃M:List Rec,m=lc - i∧(Grew (ad.map (fun(x:Addr)=>x.block)) h h')∧(i≤lc)∧(M.length =n)∧(M.Perm L)∧(Idx M L (rY la lb i))∧(Own h' (.slice ad n cap) 95 n 39 (a_ M))∧(Fr a 38 [(0,.slice ad n cap),(1,.int .i64 ((la:Nat):Int)),(2,.int .i64 ((lb:Nat):Int)),(3,.int .i64 ((lc:Nat):Int)),(10,.int .i64 ((i:Nat):Int))])) (lc - 0) ⟨0,L,rfl,g0,(by omega),hLn,(List.Perm.refl _),(Idx.refl _ (Gx la lb)),ae,hF.to⟩ ?_
 clear hF a
 clear g0
 clear hLn
 clear ae
 rintro m a h1 ⟨i,M,rfl,g0,hi,hM,hP,hx,ae,hF⟩
 refine cS<|qP [(13,.bool (decide (((i:Nat):Int)<((lc:Nat):Int))))] hF fun a hF=>cJ 13 hF (fun hc2=> ?_) fun hc2=> ?_
 ·have hic:i<lc:=by omega
  obtain⟨aa,rfl,b3⟩:=ae.a6 (by omega)
  refine cN<|tK<|cS<|cB 1<|cD [0,0,0,6,0,0,0,96,0,0,0,1536,3840,7936,0,0,0,98304,245760,507904,1048335,2096911,4194303,8388607] 3 mixed hF<|mP 7 [0,1,2] [.slice (some aa) n cap,nV la,nV i]<|mA 15 3 la i ?_
  refine mP 127 [4,5,6] [.slice (some aa) n cap,nV lb,nV i]<|mA 255 7 lb i<|mP 2047 [8,9,10] [.slice (some aa) n cap,nV lb,nV i]<|mA 4095 11 lb i<|mI 8191 12 aa n 39 (lb+i) ((lb+i)*39)<|mY 16383 8192 13 (lb+i) ai bg (ae.row)<|mP 131071 [14,15,16] [.slice (some aa) n cap,nV la,nV i] ?_
  refine mA 262143 17 la i<|mI 524287 18 aa n 39 (la+i) ((la+i)*39)<|mY 1048575 532480 19 (la+i) ai bg (ae.row)<|mI 2097151 20 aa n 39 (la+i) ((la+i)*39)<|jv 4194303 4194063 21 (Does.c5 (a:=aa) (q:=(la+i)*39) (vs:=rcs (M.getD (lb+i) ai)) (by kernel_rfl) ae (by show _+39≤_;omega) (dC _)) ?_
  rintro _ h3 ⟨rfl,aq,g⟩
  replace g0:=g0.trans g
  rw[gS bg (by first|omega| (rw[List.length_set];omega))] at aq
  clear ae;have ae:=aq;clear aq g
  refine mI 8388607 22 aa n 39 (lb+i) ((lb+i)*39)<|jv 16777215 16777215 23 (Does.c5 (a:=aa) (q:=(lb+i)*39) (vs:=rcs (M.getD (la+i) ai)) (by kernel_rfl) ae (by show _+39≤_;omega) (dC _)) ?_
  rintro _ h4 ⟨rfl,aq,g⟩
  replace g0:=g0.trans g
  rw[gS bg (by first|omega| (rw[List.length_set];omega))] at aq
  clear ae;have ae:=aq;clear aq g
  refine mE [] fun a hF=>bK<|tK<|rS hF<|tA 1 i 1<|sE [(10,nV (i+1))] fun a hF=> ?_
  show ∃m',m'<_∧_
  refine⟨_,?_,(i+1),(om M (la+i) (lb+i)),rfl,g0,(by omega),((gU M _ _).trans hM),((kJ (by omega) (by omega)).trans hP),(hx.swp (by omega) (by omega) (yu (by omega))),ae,hF.to⟩
  omega
 ·refine cX 0 (xT (xT (xB ?_)))
  refine n0 hF ?_
  obtain rfl:lc=i:=by omega
  exact⟨M,hM,hP,hx,ae,g0⟩
noncomputable def PU:Code:=Tryz.f146.body.getD .skip
theorem vi(h:Heap)(ad:Option Addr)(cap n la lm lb:Nat)(L:List Rec)(ae:Own h (.slice ad n cap) 95 n 39 (a_ L))(hLn:L.length =n)(ham:la<lm)(hmb:lm<lb)(hbn:lb≤n)(hn:n≤1099511627776):Sat Tryz.prog 146 #[.slice ad n cap,.int .i64 ((la:Nat):Int),.int .i64 ((lm:Nat):Int),.int .i64 ((lb:Nat):Int),.func (.func 107) #[] #[]] h fun _ h'=>∃M,M.length =n∧M.Perm L∧Idx M L (lh lm (lm - la) (lb - lm))∧Own h' (.slice ad n cap) 95 n 39 (a_ M)∧Grew (ad.map (fun(x:Addr)=>x.block)) h h':=by
 have g0:=Grew.refl (ad.map (fun(x:Addr)=>x.block)) h
 refine ak Tryz.func146 58 fun a hF=>qS hF<|tU 2 lm la<|sT [(10,nV (lm - la))] fun a hF=>qS hF<|tU 2 lb lm<|sT [(11,nV (lb - lm))] fun a hF=> ?_
 refine cS<|cB 0<|cL (fun m a h'=>∃i:Nat,∃j:Nat,∃M:List Rec,m=i+j∧(Grew (ad.map (fun(x:Addr)=>x.block)) h h')∧(0<i∧0<j∧i≤lm∧lm+j≤lb)∧(M.length =n)∧(M.Perm L)∧(lC L M lm la lb i j)∧(Own h' (.slice ad n cap) 95 n 39 (a_ M))∧(Fr a 58 [(0,.slice ad n cap),(2,.int .i64 ((lm:Nat):Int)),(4,.func (.func 107) #[] #[]),(10,.int .i64 ((i:Nat):Int)),(11,.int .i64 ((j:Nat):Int))])) ((lm - la)+(lb - lm)) ⟨(lm - la),(lb - lm),L,rfl,g0,(by omega),hLn,(List.Perm.refl _),(lC.start _ _ _ _),ae,hF.to⟩ ?_
 clear hF a
 clear g0
 clear hLn
 clear ae
 rintro m a h1 ⟨i,j,M,rfl,g0,hij,hM,hP,hr,ae,hF⟩
 refine cS<|qP [(20,.bool (!decide (((i:Nat):Int)=((j:Nat):Int))))] hF fun a hF=>cI 20 hF (fun hc2=> ?_) fun hc2=> ?_
 ·refine cN<|tK<|cB 1<|qP [(23,.bool (decide (((j:Nat):Int)<((i:Nat):Int))))] hF fun a hF=>cJ 23 hF (fun hc3=> ?_) fun hc3=> ?_
  ·refine qS hF<|tU 3 lm i<|tG 7 (pU _ ad cap n (lm - i) (lm) (j) M ae hM (by omega) (by omega) (by omega)) ?_
   rintro _ h5 ⟨K4,hM2,hP2,hx,aq,g⟩
   replace g0:=g0.trans g
   clear ae;have ae:=aq;clear aq g
   replace hP:=hP2.trans hP;replace hM:=hM2;clear hP2 hM2
   replace hr:=hr.big hx (by omega) (by omega)
   refine sT [] fun a hF=>rS hF<|tU 2 i j<|sE [(10,nV (i - j))] fun a hF=>bK ?_
   show ∃m',m'<_∧_
   refine⟨_,?_,i - j,j,K4,rfl,g0,(by omega),hM,hP,hr,ae,hF.to⟩
   omega
  ·have hlt:i<j:=by omega
   refine qS hF<|tU 3 lm i<|tA 6 lm j<|tU 8 (lm+j) i<|tG 11 (pU _ ad cap n (lm - i) ((lm+j) - i) (i) M ae hM (by omega) (by omega) (by omega)) ?_
   rintro _ h7 ⟨K6,hM2,hP2,hx,aq,g⟩
   replace g0:=g0.trans g
   clear ae;have ae:=aq;clear aq g
   replace hP:=hP2.trans hP;replace hM:=hM2;clear hP2 hM2
   replace hr:=hr.small hx (by omega) (by omega)
   refine sT [] fun a hF=>rS hF<|tU 2 j i<|sE [(11,nV (j - i))] fun a hF=>bK ?_
   show ∃m',m'<_∧_
   refine⟨_,?_,i,j - i,K6,rfl,g0,(by omega),hM,hP,hr,ae,hF.to⟩
   omega
 ·have heq:i=j:=by omega
  refine cX 0 (xT (xT (xB ?_)))
  refine tK<|rS hF<|tU 3 lm i<|tG 7 (pU _ ad cap n (lm - i) (lm) (i) M ae hM (by omega) (by omega) (by omega)) ?_
  rintro _ h9 ⟨K8,hM2,hP2,hx,aq,g⟩
  replace g0:=g0.trans g
  clear ae;have ae:=aq;clear aq g
  replace hP:=hP2.trans hP;replace hM:=hM2;clear hP2 hM2
  replace hr:=hr.last hx (by omega) (by omega)
  exact sE [] fun a hF=>n0 hF<|⟨K8,hM,hP,hr,ae,g0⟩
end Go.Proofs.YtegkejcglfgpmaaGreatDoor
end
