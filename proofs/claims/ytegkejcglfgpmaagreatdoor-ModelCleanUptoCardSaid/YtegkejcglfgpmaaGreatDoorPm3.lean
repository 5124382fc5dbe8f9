/- The walks and the plain laws, part 3: TreeE, TreeG, TreeH, ChkA, ChkB, MdlAns, MdlEq, MdlJdg, MdlLaw, ReadM, RMath, RetA, RetB, RetC, MdlA, Ref11, RA, MdlB, MdlC, MdlD, RetF, RetS, RetM. Conditions: those that each theorem names. -/
import Derived.Test.YtegkejcglfgpmaaGreatDoorPm2
section
namespace Go.Proofs.YtegkejcglfgpmaaGreatDoor
open Go Go.aj Go.aN
noncomputable def MP:Code:=Tryz.f118.body.getD .skip
def len8:ByteArray:=⟨#[0,1,2,2,3,3,3,3,4,4,4,4,4,4,4,4,5,5,5,5,5,5,5,5,5,5,5,5,5,5,5,5,6,6,6,6,6,6,6,6,6,6,6,6,6,6,6,6,6,6,6,6,6,6,6,6,6,6,6,6,6,6,6,6,7,7,7,7,7,7,7,7,7,7,7,7,7,7,7,7,7,7,7,7,7,7,7,7,7,7,7,7,7,7,7,7,7,7,7,7,7,7,7,7,7,7,7,7,7,7,7,7,7,7,7,7,7,7,7,7,7,7,7,7,7,7,7,7,8,8,8,8,8,8,8,8,8,8,8,8,8,8,8,8,8,8,8,8,8,8,8,8,8,8,8,8,8,8,8,8,8,8,8,8,8,8,8,8,8,8,8,8,8,8,8,8,8,8,8,8,8,8,8,8,8,8,8,8,8,8,8,8,8,8,8,8,8,8,8,8,8,8,8,8,8,8,8,8,8,8,8,8,8,8,8,8,8,8,8,8,8,8,8,8,8,8,8,8,8,8,8,8,8,8,8,8,8,8,8,8,8,8,8,8,8,8,8,8,8,8,8,8,8,8,8,8]⟩
theorem len8_get:∀y,y<256→len8[y]? =some (UInt8.ofNat (aF y)):=by decide+kernel
theorem uq(h:Heap)(x:Nat)(hx:x<18446744073709551616):Sat Tryz.prog 118 #[.int .u64 ((x:Nat):Int)] h fun v h'=>v= .int .i64 ((aF x:Nat):Int)∧h'=h:=by
 refine ag Tryz.func118 25 fun a b=>qP [(2,.int .i64 0)] b fun a b=>cS<|qP [(4,.bool (decide ((4294967296:Int)≤((x:Nat):Int))))] b fun a b=>cJ 4 b (fun c=> ?_) fun c=> ?_
 ·have MQ:2^32≤(x):=by omega
  refine qS b<|t1 1 (.int .u64 ((x/2^32:Nat):Int)) (.int .u64 (Int.fdiv ((x:Nat):Int) (2^32))) (congrArg (Value.int .u64) (bL (x) 32))<|sT [(0,.int .u64 ((x/2^32:Nat):Int))] fun a b=>rP [(2,.int .i64 32)] b fun a b=>tK<|cS<|qP [(8,.bool (decide ((65536:Int)≤((x/2^32:Nat):Int))))] b fun a b=> ?_
  refine cJ 8 b (fun d=> ?_) fun d=> ?_
  ·have I6:2^16≤(x/2^32):=by omega
   refine qS b<|t1 1 (.int .u64 (((x/2^32)/2^16:Nat):Int)) (.int .u64 (Int.fdiv ((x/2^32:Nat):Int) (2^16))) (congrArg (Value.int .u64) (bL (x/2^32) 16))<|sT [(0,.int .u64 (((x/2^32)/2^16:Nat):Int))] fun a b=>rP [(2,.int .i64 48)] b fun a b=>tK<|cS<|qP [(14,.bool (decide ((256:Int)≤(((x/2^32)/2^16:Nat):Int))))] b fun a b=> ?_
   refine cJ 14 b (fun e=> ?_) fun e=> ?_
   ·have hq8:2^8≤((x/2^32)/2^16):=by omega
    refine qS b<|t1 1 (.int .u64 ((((x/2^32)/2^16)/2^8:Nat):Int)) (.int .u64 (Int.fdiv (((x/2^32)/2^16:Nat):Int) (2^8))) (congrArg (Value.int .u64) (bL ((x/2^32)/2^16) 8))<|sT [(0,.int .u64 ((((x/2^32)/2^16)/2^8:Nat):Int))] fun a b=>rP [(2,.int .i64 56)] b fun a b=>tK<|qS b<|t1 2 (bv (UInt8.ofNat (((x/2^32)/2^16)/2^8))) (.int .u8 (IntKind.u8.wrap ((((x/2^32)/2^16)/2^8:Nat):Int))) (bt _) ?_
    refine tC 3 (bv (UInt8.ofNat (aF (((x/2^32)/2^16)/2^8)))) ((Calm.kh (t:=9) (n:=(((x/2^32)/2^16)/2^8)) (s:=len8) (by rw[show((((x/2^32)/2^16)/2^8:Nat):Int)=((UInt8.ofNat (((x/2^32)/2^16)/2^8)).toNat :Int) by rw[gg (by omega)]];kernel_rfl) (by kernel_rfl) (len8_get _ (by omega))) _)<|t1 4 (.int .i64 ((aF (((x/2^32)/2^16)/2^8):Nat):Int)) (.int .i64 (IntKind.i64.wrap ((UInt8.ofNat (aF (((x/2^32)/2^16)/2^8))).toNat :Int))) (gf (y:=((x/2^32)/2^16)/2^8) (by omega)) ?_
    have hbl:=c_ (((x/2^32)/2^16)/2^8) (by omega)
    refine tA 5 56 (aF (((x/2^32)/2^16)/2^8))<|sT [(2,nV (56+(aF (((x/2^32)/2^16)/2^8))))] fun a b=>cR<|rT 2 (nV (56+(aF (((x/2^32)/2^16)/2^8)))) b ?_
    have C4:=bG (x:=x) (k:=32) (by omega)
    have C5:=bG (x:=x/2^32) (k:=16) (by omega)
    have hs8:=bG (x:=(x/2^32)/2^16) (k:=8) (by omega)
    exact⟨congrArg (fun z:Nat=>Value.int .i64 (z:Int)) (by omega),rfl⟩
   ·refine cN<|tK<|qS b<|t1 2 (bv (UInt8.ofNat ((x/2^32)/2^16))) (.int .u8 (IntKind.u8.wrap (((x/2^32)/2^16:Nat):Int))) (bt _)<|tC 3 (bv (UInt8.ofNat (aF ((x/2^32)/2^16)))) ((Calm.kh (t:=9) (n:=((x/2^32)/2^16)) (s:=len8) (by rw[show(((x/2^32)/2^16:Nat):Int)=((UInt8.ofNat ((x/2^32)/2^16)).toNat :Int) by rw[gg (by omega)]];kernel_rfl) (by kernel_rfl) (len8_get _ (by omega))) _)<|t1 4 (.int .i64 ((aF ((x/2^32)/2^16):Nat):Int)) (.int .i64 (IntKind.i64.wrap ((UInt8.ofNat (aF ((x/2^32)/2^16))).toNat :Int))) (gf (y:=(x/2^32)/2^16) (by omega)) ?_
    have hbl:=c_ ((x/2^32)/2^16) (by omega)
    refine tA 5 48 (aF ((x/2^32)/2^16))<|sT [(2,nV (48+(aF ((x/2^32)/2^16))))] fun a b=>cR<|rT 2 (nV (48+(aF ((x/2^32)/2^16)))) b ?_
    have C4:=bG (x:=x) (k:=32) (by omega)
    have C5:=bG (x:=x/2^32) (k:=16) (by omega)
    exact⟨congrArg (fun z:Nat=>Value.int .i64 (z:Int)) (by omega),rfl⟩
  ·refine cN<|tK<|cS<|qP [(14,.bool (decide ((256:Int)≤((x/2^32:Nat):Int))))] b fun a b=>cJ 14 b (fun f=> ?_) fun f=> ?_
   ·have hq8:2^8≤(x/2^32):=by omega
    refine qS b<|t1 1 (.int .u64 (((x/2^32)/2^8:Nat):Int)) (.int .u64 (Int.fdiv ((x/2^32:Nat):Int) (2^8))) (congrArg (Value.int .u64) (bL (x/2^32) 8))<|sT [(0,.int .u64 (((x/2^32)/2^8:Nat):Int))] fun a b=>rP [(2,.int .i64 40)] b fun a b=>tK<|qS b<|t1 2 (bv (UInt8.ofNat ((x/2^32)/2^8))) (.int .u8 (IntKind.u8.wrap (((x/2^32)/2^8:Nat):Int))) (bt _) ?_
    refine tC 3 (bv (UInt8.ofNat (aF ((x/2^32)/2^8)))) ((Calm.kh (t:=9) (n:=((x/2^32)/2^8)) (s:=len8) (by rw[show(((x/2^32)/2^8:Nat):Int)=((UInt8.ofNat ((x/2^32)/2^8)).toNat :Int) by rw[gg (by omega)]];kernel_rfl) (by kernel_rfl) (len8_get _ (by omega))) _)<|t1 4 (.int .i64 ((aF ((x/2^32)/2^8):Nat):Int)) (.int .i64 (IntKind.i64.wrap ((UInt8.ofNat (aF ((x/2^32)/2^8))).toNat :Int))) (gf (y:=(x/2^32)/2^8) (by omega)) ?_
    have hbl:=c_ ((x/2^32)/2^8) (by omega)
    refine tA 5 40 (aF ((x/2^32)/2^8))<|sT [(2,nV (40+(aF ((x/2^32)/2^8))))] fun a b=>cR<|rT 2 (nV (40+(aF ((x/2^32)/2^8)))) b ?_
    have C4:=bG (x:=x) (k:=32) (by omega)
    have hs8:=bG (x:=x/2^32) (k:=8) (by omega)
    exact⟨congrArg (fun z:Nat=>Value.int .i64 (z:Int)) (by omega),rfl⟩
   ·refine cN<|tK<|qS b<|t1 2 (bv (UInt8.ofNat (x/2^32))) (.int .u8 (IntKind.u8.wrap ((x/2^32:Nat):Int))) (bt _)<|tC 3 (bv (UInt8.ofNat (aF (x/2^32)))) ((Calm.kh (t:=9) (n:=(x/2^32)) (s:=len8) (by rw[show((x/2^32:Nat):Int)=((UInt8.ofNat (x/2^32)).toNat :Int) by rw[gg (by omega)]];kernel_rfl) (by kernel_rfl) (len8_get _ (by omega))) _)<|t1 4 (.int .i64 ((aF (x/2^32):Nat):Int)) (.int .i64 (IntKind.i64.wrap ((UInt8.ofNat (aF (x/2^32))).toNat :Int))) (gf (y:=x/2^32) (by omega)) ?_
    have hbl:=c_ (x/2^32) (by omega)
    refine tA 5 32 (aF (x/2^32))<|sT [(2,nV (32+(aF (x/2^32))))] fun a b=>cR<|rT 2 (nV (32+(aF (x/2^32)))) b ?_
    have C4:=bG (x:=x) (k:=32) (by omega)
    exact⟨congrArg (fun z:Nat=>Value.int .i64 (z:Int)) (by omega),rfl⟩
 ·refine cN<|tK<|cS<|qP [(8,.bool (decide ((65536:Int)≤((x:Nat):Int))))] b fun a b=>cJ 8 b (fun g=> ?_) fun g=> ?_
  ·have I6:2^16≤(x):=by omega
   refine qS b<|t1 1 (.int .u64 ((x/2^16:Nat):Int)) (.int .u64 (Int.fdiv ((x:Nat):Int) (2^16))) (congrArg (Value.int .u64) (bL (x) 16))<|sT [(0,.int .u64 ((x/2^16:Nat):Int))] fun a b=>rP [(2,.int .i64 16)] b fun a b=>tK<|cS<|qP [(14,.bool (decide ((256:Int)≤((x/2^16:Nat):Int))))] b fun a b=> ?_
   refine cJ 14 b (fun i=> ?_) fun i=> ?_
   ·have hq8:2^8≤(x/2^16):=by omega
    refine qS b<|t1 1 (.int .u64 (((x/2^16)/2^8:Nat):Int)) (.int .u64 (Int.fdiv ((x/2^16:Nat):Int) (2^8))) (congrArg (Value.int .u64) (bL (x/2^16) 8))<|sT [(0,.int .u64 (((x/2^16)/2^8:Nat):Int))] fun a b=>rP [(2,.int .i64 24)] b fun a b=>tK<|qS b<|t1 2 (bv (UInt8.ofNat ((x/2^16)/2^8))) (.int .u8 (IntKind.u8.wrap (((x/2^16)/2^8:Nat):Int))) (bt _) ?_
    refine tC 3 (bv (UInt8.ofNat (aF ((x/2^16)/2^8)))) ((Calm.kh (t:=9) (n:=((x/2^16)/2^8)) (s:=len8) (by rw[show(((x/2^16)/2^8:Nat):Int)=((UInt8.ofNat ((x/2^16)/2^8)).toNat :Int) by rw[gg (by omega)]];kernel_rfl) (by kernel_rfl) (len8_get _ (by omega))) _)<|t1 4 (.int .i64 ((aF ((x/2^16)/2^8):Nat):Int)) (.int .i64 (IntKind.i64.wrap ((UInt8.ofNat (aF ((x/2^16)/2^8))).toNat :Int))) (gf (y:=(x/2^16)/2^8) (by omega)) ?_
    have hbl:=c_ ((x/2^16)/2^8) (by omega)
    refine tA 5 24 (aF ((x/2^16)/2^8))<|sT [(2,nV (24+(aF ((x/2^16)/2^8))))] fun a b=>cR<|rT 2 (nV (24+(aF ((x/2^16)/2^8)))) b ?_
    have C5:=bG (x:=x) (k:=16) (by omega)
    have hs8:=bG (x:=x/2^16) (k:=8) (by omega)
    exact⟨congrArg (fun z:Nat=>Value.int .i64 (z:Int)) (by omega),rfl⟩
   ·refine cN<|tK<|qS b<|t1 2 (bv (UInt8.ofNat (x/2^16))) (.int .u8 (IntKind.u8.wrap ((x/2^16:Nat):Int))) (bt _)<|tC 3 (bv (UInt8.ofNat (aF (x/2^16)))) ((Calm.kh (t:=9) (n:=(x/2^16)) (s:=len8) (by rw[show((x/2^16:Nat):Int)=((UInt8.ofNat (x/2^16)).toNat :Int) by rw[gg (by omega)]];kernel_rfl) (by kernel_rfl) (len8_get _ (by omega))) _)<|t1 4 (.int .i64 ((aF (x/2^16):Nat):Int)) (.int .i64 (IntKind.i64.wrap ((UInt8.ofNat (aF (x/2^16))).toNat :Int))) (gf (y:=x/2^16) (by omega)) ?_
    have hbl:=c_ (x/2^16) (by omega)
    refine tA 5 16 (aF (x/2^16))<|sT [(2,nV (16+(aF (x/2^16))))] fun a b=>cR<|rT 2 (nV (16+(aF (x/2^16)))) b ?_
    have C5:=bG (x:=x) (k:=16) (by omega)
    exact⟨congrArg (fun z:Nat=>Value.int .i64 (z:Int)) (by omega),rfl⟩
  ·refine cN<|tK<|cS<|qP [(14,.bool (decide ((256:Int)≤((x:Nat):Int))))] b fun a b=>cJ 14 b (fun j=> ?_) fun j=> ?_
   ·have hq8:2^8≤(x):=by omega
    refine qS b<|t1 1 (.int .u64 ((x/2^8:Nat):Int)) (.int .u64 (Int.fdiv ((x:Nat):Int) (2^8))) (congrArg (Value.int .u64) (bL (x) 8))<|sT [(0,.int .u64 ((x/2^8:Nat):Int))] fun a b=>rP [(2,.int .i64 8)] b fun a b=>tK<|qS b<|t1 2 (bv (UInt8.ofNat (x/2^8))) (.int .u8 (IntKind.u8.wrap ((x/2^8:Nat):Int))) (bt _) ?_
    refine tC 3 (bv (UInt8.ofNat (aF (x/2^8)))) ((Calm.kh (t:=9) (n:=(x/2^8)) (s:=len8) (by rw[show((x/2^8:Nat):Int)=((UInt8.ofNat (x/2^8)).toNat :Int) by rw[gg (by omega)]];kernel_rfl) (by kernel_rfl) (len8_get _ (by omega))) _)<|t1 4 (.int .i64 ((aF (x/2^8):Nat):Int)) (.int .i64 (IntKind.i64.wrap ((UInt8.ofNat (aF (x/2^8))).toNat :Int))) (gf (y:=x/2^8) (by omega)) ?_
    have hbl:=c_ (x/2^8) (by omega)
    refine tA 5 8 (aF (x/2^8))<|sT [(2,nV (8+(aF (x/2^8))))] fun a b=>cR<|rT 2 (nV (8+(aF (x/2^8)))) b ?_
    have hs8:=bG (x:=x) (k:=8) (by omega)
    exact⟨congrArg (fun z:Nat=>Value.int .i64 (z:Int)) (by omega),rfl⟩
   ·refine cN<|tK<|qS b<|t1 2 (bv (UInt8.ofNat x)) (.int .u8 (IntKind.u8.wrap ((x:Nat):Int))) (bt _)<|tC 3 (bv (UInt8.ofNat (aF x))) ((Calm.kh (t:=9) (n:=x) (s:=len8) (by rw[show((x:Nat):Int)=((UInt8.ofNat x).toNat :Int) by rw[gg (by omega)]];kernel_rfl) (by kernel_rfl) (len8_get _ (by omega))) _)<|t1 4 (.int .i64 ((aF x:Nat):Int)) (.int .i64 (IntKind.i64.wrap ((UInt8.ofNat (aF x)).toNat :Int))) (gf (y:=x) (by omega)) ?_
    have hbl:=c_ (x) (by omega)
    exact t1 5 (.int .i64 ((aF x:Nat):Int)) (.int .i64 (IntKind.i64.wrap (0+((aF x:Nat):Int)))) (congrArg (Value.int .i64) (fY (by omega) (by omega) (by omega)))<|sT [(2,nV (aF x))] fun a b=>cR<|rT 2 (nV (aF x)) b<|⟨congrArg (fun z:Nat=>Value.int .i64 (z:Int)) (by omega),rfl⟩
noncomputable def b90:Code:=Tryz.f90.body.getD .skip
theorem Af(h:Heap)(x:Nat)(hx:x<18446744073709551616):Sat Tryz.prog 90 #[.int .u64 ((x:Nat):Int)] h fun v h'=>v= .int .i64 ((aF x:Nat):Int)∧h'=h:=by
 refine ag Tryz.func90 8 fun a b=>qP [] b fun a b=>cS<|C.CM [1,0,0] [1,0,1] (by kernel_rfl)<|cN<|tK<|qS b ?_
 exact tC 1 (nV (aF x)) (Does.call (f:=118) (args:= #[.int .u64 ((x:Nat):Int)]) (by kernel_rfl) (uq _ x hx))<|sT [(2,nV (aF x))] fun a b=>cR<|rT 2 (nV (aF x)) b<|⟨rfl,rfl⟩
noncomputable def MR:Code:=Tryz.f104.body.getD .skip
theorem ur(h:Heap)(n:Nat)(hn:2≤n)(hn2:n≤9223372036854775807):Sat Tryz.prog 104 #[.int .i64 ((n:Nat):Int)] h fun v h'=>v= .int .i64 ((half n:Nat):Int)∧h'=h:=by
 have hbl:=ua (x:=n - 1) (k:=63) (by omega)
 have MS:1≤aF (n - 1):=by unfold aF;rw[if_neg (by omega)];omega
 refine ag Tryz.func104 9 fun a b=>qP [] b fun a b=>qS b<|tU 1 n 1<|t1 2 (.int .u64 ((n - 1:Nat):Int)) (.int .u64 (IntKind.u64.wrap ((n - 1:Nat):Int))) (congrArg (Value.int .u64) (l5 (by omega)))<|tC 3 (nV (aF (n - 1))) (Does.call (f:=90) (args:= #[.int .u64 ((n - 1:Nat):Int)]) (by kernel_rfl) (Af _ (n - 1) (by omega)))<|tU 4 (aF (n - 1)) 1 ?_
 exact tC 5 (nV (2^((aF (n - 1)) - 1))) ((Calm.Il ((aF (n - 1)) - 1) (by kernel_rfl) (by omega)) _)<|sT [(2,nV (2^((aF (n - 1)) - 1)))] fun a b=>cR<|rT 2 (nV (2^((aF (n - 1)) - 1))) b<|⟨congrArg (fun z:Nat=>Value.int .i64 (z:Int)) (qM hn),rfl⟩
noncomputable def b87:Code:=Tryz.f87.body.getD .skip
theorem m_(h:Heap)(n:Nat)(hn:2≤n)(hn2:n≤1099511627776):Sat Tryz.prog 87 #[.int .i64 ((n:Nat):Int)] h fun v h'=>v= .int .i64 ((half n:Nat):Int)∧h'=h:=by
 refine ag Tryz.func87 11 fun a b=>qP [] b fun a b=>qP [(3,.int .i64 1)] b fun a b=>cS<|cB 0<|cL (fun m a h'=>∃j:Nat,m=n - 2^j∧(2^j<n)∧(h=h')∧(Fr a 11 [(0,.int .i64 ((n:Nat):Int)),(3,.int .i64 ((2^j:Nat):Int))])) (n - 1) ⟨0,rfl,(by omega),rfl,b.to⟩ ?_
 clear b a
 rintro m a d ⟨j,rfl,hj,hh,b⟩
 have hp:=Nat.two_pow_pos j
 refine cS<|qS b<|t1 1 (.int .i64 ((2*(2^j):Nat):Int)) (.int .i64 (IntKind.i64.wrap (2*((2^j:Nat):Int)))) (congrArg (Value.int .i64) (fY (by omega) (by omega) (by omega)))<|sT [(7,.bool (decide (((2*(2^j):Nat):Int)<((n:Nat):Int))))] fun a b=>cJ 7 b (fun c=> ?_) fun c=> ?_
 ·refine cN<|tK<|cB 1<|rS b<|t1 1 (.int .i64 ((2*(2^j):Nat):Int)) (.int .i64 (IntKind.i64.wrap (2*((2^j:Nat):Int)))) (congrArg (Value.int .i64) (fY (by omega) (by omega) (by omega)))<|sE [(3,nV (2*(2^j)))] fun a b=>bK ?_
  have hk2:2*2^j=2^(j+1):=by rw[Nat.pow_succ,Nat.mul_comm]
  rw[hk2] at b
  show ∃m',m'<_∧_
  refine⟨_,?_,(j+1),rfl,(by rw[Nat.pow_succ];omega),hh,b.to⟩
  omega
 ·refine cX 0 (xT (xT (xB ?_)))
  exact tK<|qP [(2,nV (2^j))] b fun a b=>cR<|rT 2 (nV (2^j)) b<|⟨congrArg (fun z:Nat=>Value.int .i64 (z:Int)) (sw hj (by omega)).symm,hh.symm⟩
noncomputable def MT:Code:=Tryz.f105.body.getD .skip
theorem pv(h:Heap)(ad:Option Addr)(cap n:Nat)(L:List Hs)(bS:Own h (.slice ad n cap) 39 n 32 (hcs L))(h32:aq L)(hLn:L.length =n)(hn:n≤1099511627776):Sat Tryz.prog 105 #[.slice ad n cap] h fun _ h'=>Own h' (.slice ad n cap) 39 n 32 (hcs L.reverse)∧Grew (ad.map (·.block)) h h':=by
 have c:Grew (ad.map (·.block)) h h:=Grew.refl _ _
 refine ag Tryz.func105 28 fun a b=>qS b<|t1 2 (.int .i64 (((n:Nat):Int) - 1)) (.int .i64 (IntKind.i64.wrap (((n:Nat):Int) - 1))) (congrArg (Value.int .i64) (k7 (by omega) (by omega)))<|sT [(2,.int .i64 0),(3,.int .i64 (((n:Nat):Int) - 1))] fun a b=>cB 0 ?_
 have hst:(((n:Nat):Int) - 1)=((n:Nat):Int) - 1 - ((0:Nat):Int):=by omega
 rw[hst] at b
 refine cL (fun m a h'=>∃t:Nat,∃L':List Hs,m=n - t∧(Grew (ad.map (·.block)) h h')∧(l8 L L' t)∧(aq L')∧(Own h' (.slice ad n cap) 39 n 32 (hcs L'))∧(Fr a 28 [(0,.slice ad n cap),(2,.int .i64 ((t:Nat):Int)),(3,.int .i64 (((n:Nat):Int) - 1 - ((t:Nat):Int)))])) (n - 0) ⟨0,L,rfl,c,(l8.start L),h32,bS,b.to⟩ ?_
 clear b a
 clear c
 clear h32
 clear bS
 rintro m a i ⟨t,L',rfl,c,Hu,js,bS,b⟩
 refine cS<|qP [(9,.bool (decide (((t:Nat):Int)<(((n:Nat):Int) - 1 - ((t:Nat):Int)))))] b fun a b=>cJ 9 b (fun d=> ?_) fun d=> ?_
 ·have LH:L'.length =n:=Hu.1.trans hLn
  have hj:(((n:Nat):Int) - 1 - ((t:Nat):Int))=((n - 1 - t:Nat):Int):=by omega
  rw[hj] at b
  have hlt:t<n - 1 - t:=by omega
  obtain⟨aa,rfl,hcap⟩:=bS.bg (by omega)
  have hr':=HR.of bS js
  have hx1:(L'.getD (n - 1 - t) []).length =32:=js.get (by omega)
  have hx2:(L'.getD t []).length =32:=js.get (by omega)
  have I7:l8 L ((L'.set t (L'.getD (n - 1 - t) [])).set (n - 1 - t) (L'.getD t [])) (t+1):=by have:=Hu.step (by rw[hLn];exact hlt);rw[hLn] at this;exact this
  have hls:(L'.set t (L'.getD (n - 1 - t) [])).length =n:=by rw[List.length_set];exact LH
  refine cN<|tK<|cS<|cB 1<|cD [0,0,0,0,0,0,48,112,0,0,768,1792,4083,8179,16383,32767] 3 mixed b<|mP 63 [0,1,2,3,4,5] [.slice (some aa) n cap,nV t,.slice (some aa) n cap,nV (n - 1 - t),.slice (some aa) n cap,nV (n - 1 - t)]<|mI 127 6 aa n 32 (n - 1 - t) ((n - 1 - t)*32) ?_
  refine mH 255 128 7 (n - 1 - t) (HR.of bS js)<|mP 1023 [8,9] [.slice (some aa) n cap,nV t]<|mI 2047 10 aa n 32 t (t*32)<|mH 4095 2176 11 t (HR.of bS js)<|mI 8191 12 aa n 32 t (t*32)<|iO 16383 16371 13 (Does.cZ (a:=aa) (q:=t*32) (vs:=(L'.getD (n - 1 - t) []).map bv) (bn (by kernel_rfl) (hlm (hr'.2.1.get (k:=(n - 1 - t)) (by rw[hr'.2.2];omega)))) bS (by rw[hlm (hr'.2.1.get (k:=(n - 1 - t)) (by rw[hr'.2.2];omega))];omega) (aE _)) ?_
  rintro _ j ⟨rfl,bS,f⟩
  replace c:=c.trans f
  rw[sD js (k:=t) (by omega) (hr'.2.1.get (k:=(n - 1 - t)) (by rw[hr'.2.2];omega))] at bS
  refine mI 32767 14 aa n 32 (n - 1 - t) ((n - 1 - t)*32)<|iO 65535 65535 15 (Does.cZ (a:=aa) (q:=(n - 1 - t)*32) (vs:=(L'.getD t []).map bv) (bn (by kernel_rfl) (hlm (hr'.2.1.get (k:=t) (by rw[hr'.2.2];omega)))) bS (by rw[hlm (hr'.2.1.get (k:=t) (by rw[hr'.2.2];omega))];omega) (aE _)) ?_
  rintro _ l ⟨rfl,bS,g⟩
  replace c:=c.trans g
  rw[sD (js.set hx1) (k:=n - 1 - t) (by omega) (hr'.2.1.get (k:=t) (by rw[hr'.2.2];omega))] at bS
  refine mE [] fun a b=>bK<|tK<|rS b<|tA 1 t 1<|tU 3 (n - 1 - t) 1<|sE [(2,nV (t+1)),(3,nV ((n - 1 - t) - 1))] fun a b=> ?_
  have hnx:((n - 1 - t - 1:Nat):Int)=((n:Nat):Int) - 1 - ((t+1:Nat):Int):=by omega
  simp only[nV,hnx] at b
  show ∃m',m'<_∧_
  refine⟨_,?_,(t+1),((L'.set t (L'.getD (n - 1 - t) [])).set (n - 1 - t) (L'.getD t [])),rfl,c,I7,((js.set hx1).set hx2),bS,b.to⟩
  omega
 ·refine cX 0 (xT (xT (xB ?_)))
  refine n0 b ?_
  have LH:L'.length =n:=Hu.1.trans hLn
  have e:=Hu.done (by omega)
  exact⟨e▸bS,c⟩
noncomputable def b71:Code:=Tryz.f71.body.getD .skip
set_option maxHeartbeats 1000000 in
theorem uu(h:Heap)(L:List Hs)(va:Option Addr)(vc n:Nat)(hL:HR h va vc n L)(hn:n≤1099511627000)(m:Int)(kt:bl h):Sat Tryz.prog 71 #[.slice va n vc,.int .i64 m] h fun v h'=>∃s,v= .tuple #[s,.int .i64 (cA L m).2]∧bU h h' 39 s (cA L m).1 :=by
 have hLn:=hL.2.2
 have d:=Ext.refl h
 have F:=kt.lt
 have b:Sep h.size h.size []:=Sep.nil _ _
 refine ag Tryz.func71 51 fun a c=>qP [] c fun a c=>cS<|cS ?_
 have Ej:m<0∨(n:Int)≤m∨∃k:Nat,m=(k:Int)∧k<n:=by
  rcases Int.lt_or_le m 0 with R|R
  ·exact .inl R
  ·rcases Int.lt_or_le m n with M|M
   ·exact .inr (.inr ⟨m.toNat,by omega,by omega⟩)
   ·exact .inr (.inl M)
 rcases Ej with hm0|hm0|⟨k,rfl,hk⟩
 ·refine rS c<|tT 1 (m<(0:Int))<|sE [(15,.bool true)] fun a c=>tK<|cT 15 c<|qP [(4,.slice none 0 0),(5,.int .i64 50)] c fun a c=>cR (yT ?_)
  refine aI [.tmp 4,.tmp 5] [.slice none 0 0,.int .i64 50] (.tuple #[.slice none 0 0,.int .i64 50]) rfl c ⟨rfl,rfl,trivial⟩ rfl ?_
  rw[i' (by omega)];exact⟨_,rfl,bU.none d⟩
 ·refine rS c<|tX 1 (m<(0:Int))<|tT 6 (((n:Nat):Int)≤m)<|sE [(15,.bool true)] fun a c=>tK<|cT 15 c<|qP [(4,.slice none 0 0),(5,.int .i64 50)] c fun a c=> ?_
  refine cR (yT ?_)
  refine aI [.tmp 4,.tmp 5] [.slice none 0 0,.int .i64 50] (.tuple #[.slice none 0 0,.int .i64 50]) rfl c ⟨rfl,rfl,trivial⟩ rfl ?_
  rw[i' (by omega)];exact⟨_,rfl,bU.none d⟩
 ·refine rS c<|tX 1 (((k:Nat):Int)<(0:Int))<|tX 6 (((n:Nat):Int)≤((k:Nat):Int))<|sE [(15,.bool false)] fun a c=>tK<|cF 15 c<|cN ?_
  refine tK<|qP [(6,.slice none 0 0)] c fun a c=>cS<|cB 0 ?_
  have bS:Own h (.slice none 0 0) 39 0 32 (hcs []):=Own.nil _ _ _
  have e:=d.size
  replace b:=b.none e;clear e
  have hinv:incl L k=incl L k++([]:List Hs).reverse :=by simp
  refine cL (fun m a h'=>∃L':List Hs,∃Ag:Option Addr,∃jO:Nat,∃n':Nat,∃m':Nat,∃p:List Hs,∃ad:Option Addr,∃cap:Nat,m=n'+1∧(Ext h h')∧(bl h')∧(HR h Ag jO n' L')∧(m'<n'∧n'+p.length ≤n)∧(incl L k=incl L' m'++p.reverse)∧(aq p)∧(Own h' (.slice ad p.length cap) 39 p.length 32 (hcs p))∧(Sep h.size h'.size [ad.map (·.block)])∧(Fr a 51 [(0,.slice Ag n' jO),(1,.int .i64 ((m':Nat):Int)),(6,.slice ad p.length cap)])) (n+1) ⟨L,va,vc,n,k,[],none,0,rfl,d,kt,hL,(by simp;omega),hinv,aq.nil,bS,b,c.to⟩ ?_
  clear c a
  clear d
  clear kt
  clear hL
  clear hinv
  clear bS
  clear b
  rintro m a M ⟨L',Ag,jO,n',m',p,ad,cap,rfl,d,kt,hL',hm',hinv,C6,bS,b,c⟩
  have Ah:=hL'.2.2
  refine cS<|qP [(18,.bool (decide ((1:Int)<((n':Nat):Int))))] c fun a c=>cJ 18 c (fun N=> ?_) fun N=> ?_
  ·obtain⟨aa,rfl,hcap⟩:=hL'.bg (by omega)
   have LI:=dW (n:=n') (by omega)
   have LJ:=dE n'
   obtain⟨i,dO⟩:∃x,x=if jO=half n' then (some aa:Option Addr) else (some aa:Option Addr).map (·.add (half n'*32)):=⟨_,rfl⟩
   refine cN<|tK<|cB 1<|qS c<|tC 2 (nV (half n')) (Does.call (f:=104) (args:= #[nV (n')]) (by kernel_rfl) (ur _ n' (by omega) (by omega)))<|sT [(7,nV (half n'))] fun a c=>qP [(24,.bool (decide (((m':Nat):Int)<((half n':Nat):Int))))] c fun a c=> ?_
   refine cJ 24 c (fun O=> ?_) fun O=> ?_
   ·refine qS c<|tC 3 (.slice i (n' - half n') (jO - half n')) ((fun h=>Calm.b7 (a:=(some aa)) (len:=n') (cap:=jO) (sz:=32) (x:=i) (half n') n' jO (n' - half n') (jO - half n') (by kernel_rfl) (.inl ⟨rfl,rfl⟩) (.inl ⟨rfl,rfl⟩) (.inr rfl) (by omega) (by omega) dO (by first|rfl|omega) (by first|rfl|omega) h) _)<|tG 4 (g_ _ (L'.drop (half n')) _ _ (n' - half n') ((hL'.ext d).drop (by omega) dO) kt (by omega)) ?_
    rintro _ S ⟨rfl,K⟩
    refine tF 5 (Does.newHs (L:=[root (L'.drop (half n'))]) (t:=45) (E:=39) (dV:=32) (n:=1) (by kernel_rfl) (by kernel_rfl) (aq.cons (a_ (hL'.2.1.drop _)) aq.nil) rfl (by decide) (by decide)) ?_
    rintro _ T ⟨rfl,hh⟩
    have P:Ext S T:=aY hh
    have Q:T[S.size]? =some (.cells (hcs [root (L'.drop (half n'))]).toArray 39):=bj hh
    clear hh
    replace d:=d.ext K
    have e:=d.size
    replace b:=b.up K.size
    have a8:=b
    replace b:=a8.new e (ak Q)
    clear a8 e
    replace bS:=(bS.ext K).ext P
    refine tP 6 ((p++[root (L'.drop (half n'))]).length) 32 (hcs (p++[root (L'.drop (half n'))])) bS (hrow1 (a_ (hL'.2.1.drop _)) Q) (dF _) (fun z j U bS A u=> ?_) (ys:=(hcs ([root (L'.drop (half n'))]))) (hZ:=by first|rfl|exact(bh _ _).symm |simp[bh])
    replace d:=d.ext P
    have G:=b
    replace b:=b.sa A 1 u bS d.size;clear u
    clear Q
    replace kt:=((kt.ext K).ext P).grew A (G.zero 1 rfl F)
    replace d:=d.grew A (G.l 1)
    replace b:=b.sub (l':=[z.map (·.block)]) (.cons _ (.cons_cons _ (.slnil)))
    refine sT [(6,.slice z ((p++[root (L'.drop (half n'))]).length) j)] fun a c=>rS c<|tC 2 (.slice (some aa) (half n') jO) ((fun h=>Calm.b7 (a:=(some aa)) (len:=n') (cap:=jO) (sz:=32) (x:=(some aa)) 0 (half n') jO (half n') jO (by kernel_rfl) (.inl ⟨rfl,rfl⟩) (.inr rfl) (.inl ⟨rfl,rfl⟩) (by omega) (by omega) (eO _ 32) (by first|rfl|omega) (by first|rfl|omega) h) _)<|sE [(0,.slice (some aa) (half n') jO)] fun a c=> ?_
    have hL2:=hL'.take (k:=half n') (by omega)
    have wJ:incl L k=incl (L'.take (half n')) m'++(p++[root (L'.drop (half n'))]).reverse :=by rw[hinv,kF (l:=L') (by omega) (by rw[Ah];omega),Ah];simp
    have hm2:m'<half n'∧half n'+(p++[root (L'.drop (half n'))]).length ≤n:=by rw[List.length_append,List.length_singleton];omega
    have wK:aq (p++[root (L'.drop (half n'))]):=C6.append (aq.one (a_ (hL'.2.1.drop _)))
    refine bK ?_
    show ∃m',m'<_∧_
    refine⟨_,?_,_,_,_,(half n'),_,_,z,j,rfl,d,kt,hL2,hm2,wJ,wK,bS,b,c.to⟩
    omega
   ·refine qS c<|tC 3 (.slice (some aa) (half n') jO) ((fun h=>Calm.b7 (a:=(some aa)) (len:=n') (cap:=jO) (sz:=32) (x:=(some aa)) 0 (half n') jO (half n') jO (by kernel_rfl) (.inl ⟨rfl,rfl⟩) (.inr rfl) (.inl ⟨rfl,rfl⟩) (by omega) (by omega) (eO _ 32) (by first|rfl|omega) (by first|rfl|omega) h) _)<|tG 4 (g_ _ (L'.take (half n')) _ _ (half n') ((hL'.ext d).take (k:=half n') (by omega)) kt (by omega)) ?_
    rintro _ H ⟨rfl,r⟩
    refine tF 5 (Does.newHs (L:=[root (L'.take (half n'))]) (t:=45) (E:=39) (dV:=32) (n:=1) (by kernel_rfl) (by kernel_rfl) (aq.cons (a_ (hL'.2.1.take _)) aq.nil) rfl (by decide) (by decide)) ?_
    rintro _ I ⟨rfl,hh⟩
    have B:Ext H I:=aY hh
    have C:I[H.size]? =some (.cells (hcs [root (L'.take (half n'))]).toArray 39):=bj hh
    clear hh
    replace d:=d.ext r
    have e:=d.size
    replace b:=b.up r.size
    have a8:=b
    replace b:=a8.new e (ak C)
    clear a8 e
    replace bS:=(bS.ext r).ext B
    refine tP 6 ((p++[root (L'.take (half n'))]).length) 32 (hcs (p++[root (L'.take (half n'))])) bS (hrow1 (a_ (hL'.2.1.take _)) C) (dF _) (fun o q V bS D w=> ?_) (ys:=(hcs ([root (L'.take (half n'))]))) (hZ:=by first|rfl|exact(bh _ _).symm |simp[bh])
    replace d:=d.ext B
    have J:=b
    replace b:=b.sa D 1 w bS d.size;clear w
    clear C
    replace kt:=((kt.ext r).ext B).grew D (J.zero 1 rfl F)
    replace d:=d.grew D (J.l 1)
    replace b:=b.sub (l':=[o.map (·.block)]) (.cons _ (.cons_cons _ (.slnil)))
    refine sT [(6,.slice o ((p++[root (L'.take (half n'))]).length) q)] fun a c=>rS c<|tC 2 (.slice i (n' - half n') (jO - half n')) ((fun h=>Calm.b7 (a:=(some aa)) (len:=n') (cap:=jO) (sz:=32) (x:=i) (half n') n' jO (n' - half n') (jO - half n') (by kernel_rfl) (.inl ⟨rfl,rfl⟩) (.inl ⟨rfl,rfl⟩) (.inr rfl) (by omega) (by omega) dO (by first|rfl|omega) (by first|rfl|omega) h) _)<|tU 5 m' (half n')<|sE [(0,.slice i (n' - half n') (jO - half n')),(1,nV (m' - (half n')))] fun a c=> ?_
    have hL2:=hL'.drop (k:=half n') (by omega) dO
    have wJ:incl L k=incl (L'.drop (half n')) (m' - half n')++(p++[root (L'.take (half n'))]).reverse :=by rw[hinv,kG (l:=L') (by omega) (by rw[Ah];omega),Ah];simp
    have hm2:m' - half n'<n' - half n'∧n' - half n'+(p++[root (L'.take (half n'))]).length ≤n:=by rw[List.length_append,List.length_singleton];omega
    have wK:aq (p++[root (L'.take (half n'))]):=C6.append (aq.one (a_ (hL'.2.1.take _)))
    refine bK ?_
    show ∃m',m'<_∧_
    refine⟨_,?_,_,_,_,(n' - half n'),_,_,o,q,rfl,d,kt,hL2,hm2,wJ,wK,bS,b,c.to⟩
    omega
  ·refine cX 0 (xT (xT (xB ?_)))
   refine tK<|qS c<|tG 1 (pv _ ad cap p.length p bS C6 rfl (by omega)) ?_
   rintro _ W ⟨y,g⟩
   replace d:=d.grew g (b.l 0)
   replace b:=b.up g.size
   clear bS;have bS:=y;clear y g
   refine sT [] fun a c=>qP [(4,.slice ad p.length cap),(5,.int .i64 0)] c fun a c=>cR<|aI [.tmp 4,.tmp 5] [.slice ad p.length cap,.int .i64 0] (.tuple #[.slice ad p.length cap,.int .i64 0]) rfl c ⟨rfl,rfl,trivial⟩ rfl ?_
   rw[mD (by omega)]
   exact⟨_,rfl,bU.cast (p:=p.reverse) (by rw[hinv,fi (by omega)];rfl) ⟨ad,cap,by rw[List.length_reverse],by rw[List.length_reverse];exact bS,b.low 0 rfl,d⟩⟩
noncomputable def MU:Code:=Tryz.f121.body.getD .skip
set_option maxHeartbeats 1000000 in
theorem q6(h:Heap)(b:List UInt8)(va:Option Addr)(vc:Nat)(hr:Row h (.slice va b.length vc) b.length 1 (b.map bv))(hbl:b.length ≤1099511627000):Sat Tryz.prog 121 #[.slice va b.length vc] h fun v h'=>CP h h' 32 5 v b:=by
 have i:=Ext.refl h
 have e:Sep h.size h.size []:=Sep.nil _ _
 refine ag Tryz.func121 30 fun a g=>qP [] g fun a g=>qS g<|tN 0 (.slice (some ⟨h.size,0,none⟩) 0 0) #[] 5 fun C F A=> ?_
 replace e:=e.nw i.size A
 have d:Own C (.slice (some ⟨h.size,0,none⟩) 0 0) 5 ([]:List UInt8).length 1 (([]:List UInt8).map bv):=Own.empty 1 A
 replace e:Sep h.size C.size [(some ⟨h.size,0,none⟩:Option Addr).map (·.block)]:=e
 replace i:=i.ext F
 clear A
 refine tP 2 b.length 1 (b.map bv) d (hr.ext i) (aE _) (fun f j D d E u=> ?_) (hl:=(by unfold maxLen;simp;omega)) (hb:=(by simp;omega))
 have G:=e
 replace e:=e.sa E 0 u d i.size;clear u
 refine sT [(3,.slice f b.length j)] fun a g=>qP [(4,.slice none 0 0)] g fun a g=>cS<|qP [(5,.int .i64 0)] g fun a g=>cB 0 ?_
 have c:Own D (.slice none 0 0) 32 0 1 ((sK none b 0)):=Own.nil _ _ _
 replace c:Own D (.slice none 0 0) 32 0 1 (sK f b 0):=c
 replace i:=i.grew E (G.l 0)
 have w:=i.size
 replace e:=e.none w;clear w
 refine cL (fun m a h'=>∃k:Nat,∃ad:Option Addr,∃cap:Nat,m=eW b.length - k∧(Ext h h')∧(k≤eW b.length)∧(Own h' (.slice f b.length j) 5 b.length 1 (b.map bv))∧(Own h' (.slice ad k cap) 32 k 1 (sK f b k))∧(Sep h.size h'.size [ad.map (·.block),f.map (·.block)])∧(Fr a 30 [(3,.slice f b.length j),(4,.slice ad k cap),(5,.int .i64 ((k*64:Nat):Int))])) (eW b.length - 0) ⟨0,none,0,rfl,i,(by omega),d,c,e,g.to⟩ ?_
 clear g a
 clear i
 clear d
 clear c
 clear e
 rintro m a B ⟨k,ad,cap,rfl,i,hk,d,c,e,g⟩
 refine cS<|qP [(13,.bool (decide (((k*64:Nat):Int)<((b.length :Nat):Int))))] g fun a g=>cJ 13 g (fun y=> ?_) fun y=> ?_
 ·have H:k<eW b.length :=by unfold eW;omega
  have hdc:=d.wB
  refine cN<|tK<|cS<|cB 1<|qS g<|tA 3 (k*64) 64<|t1 4 (.int .i64 ((min b.length ((k*64)+64):Nat):Int)) (.int .i64 (if (((k*64)+64:Nat):Int)<((b.length :Nat):Int) then (((k*64)+64:Nat):Int) else ((b.length :Nat):Int))) (congrArg (Value.int .i64) (by rw[Nat.min_def];split<;>split<;>omega)) ?_
  refine sT [(6,nV (min b.length ((k*64)+64)))] fun a g=>rS g<|tC 5 (.slice (sJ f k) ((ck b k).length) ((ck b k).length)) ((fun h=>Calm.b7 (a:=f) (len:=b.length) (cap:=j) (sz:=1) (x:=(sJ f k)) (k*64) (min b.length (k*64+64)) (min b.length (k*64+64)) (ck b k).length (ck b k).length (by kernel_rfl) (.inr ⟨rfl,by omega,rfl⟩) (.inr rfl) (.inr rfl) (by omega) (by omega) (by unfold sJ;rw[if_neg (by omega),Nat.mul_one]) (by rw[iH];omega) (by rw[iH];omega) h) _)<|tN 6 (.slice (some ⟨B.size,0,none⟩) 1 1) #[.slice (sJ f k) ((ck b k).length) ((ck b k).length)] 32 fun I r s=> ?_
  replace e:=e.nw i.size s
  replace c:=c.ext r
  refine tP 7 (k+1) 24 (sK f b k++[wx f b k]) c (Row.blk (n:=1) (sz:=1) (l:=[wx f b k]) s rfl) (List.all_eq_true.1 (by rfl)) (fun o p J c t q=> ?_)
  replace i:=i.ext r
  have z:=e
  replace e:=e.sa t 1 q c i.size;clear q
  refine sE [(4,.slice o (k+1) p)] fun a g=>bK<|tK<|rS g<|tA 1 (k*64) 64<|sE [(5,nV ((k*64)+64))] fun a g=> ?_
  rw[wy] at c
  clear s
  replace d:=(d.ext r).k t (z.ap 2 1)
  replace i:=i.grew t (z.l 1)
  replace e:=e.sub (l':=[o.map (·.block),f.map (·.block)]) (.cons _ (.cons_cons _ (.cons_cons _ (.slnil))))
  rw[show k*64+64=(k+1)*64 by omega] at g
  show ∃m',m'<_∧_
  refine⟨_,?_,(k+1),o,p,rfl,i,(by omega),d,c,e,g.to⟩
  omega
 ·refine cX 0 (xT (xT (xB ?_)))
  refine tK<|qP [(2,.slice ad k cap)] g fun a g=>cR<|rT 2 (.slice ad k cap) g ?_
  obtain rfl:k=eW b.length :=by unfold eW at hk⊢;omega
  exact⟨_,_,_,_,rfl,c,d,e,i⟩
noncomputable def b97:Code:=Tryz.f97.body.getD .skip
theorem pw(h:Heap)(b:List UInt8)(va:Option Addr)(vc:Nat)(hr:Row h (.slice va b.length vc) b.length 1 (b.map bv))(hbl:b.length ≤1099511627000)(kt:bl h):Sat Tryz.prog 97 #[.slice va b.length vc] h fun v h'=>bU h h' 39 v (lX b (eW b.length)):=by
 have J:=lz b.length
 have o:=Ext.refl h
 have D:=kt.lt
 have d:Sep h.size h.size []:=Sep.nil _ _
 refine ag Tryz.func97 20 fun a j=>qP [] j fun a j=>qP [(3,.slice none 0 0)] j fun a j=>cS<|qS j<|tG 1 (q6 _ b _ _ (hr.ext o) hbl) ?_
 rintro _ F ⟨uv,BD,n3,LK,rfl,y,Fq,Fs,g⟩
 have q:=o.size
 have a8:=d
 replace o:=o.ext g
 replace kt:=kt.ext g
 replace d:=a8.app Fs g.size q
 have f:Own F (.slice uv (eW b.length) BD) 32 (eW b.length) 1 (sK n3 b (eW b.length)):=y
 have c:Own F (.slice n3 b.length LK) 5 b.length 1 (b.map bv):=Fq
 clear y Fq Fs a8 q g
 refine sT [(7,.slice uv (eW b.length) BD),(8,nV (eW b.length)),(9,.int .i64 0)] fun a j=>cB 0 ?_
 have aV:Own F (.slice none 0 0) 39 0 32 (hcs (lX b 0)):=Own.nil _ _ _
 have q:=o.size
 replace d:=d.none q;clear q
 refine cL (fun m a h'=>∃k:Nat,∃ad:Option Addr,∃cap:Nat,m=eW b.length - k∧(Ext h h')∧(bl h')∧(k≤eW b.length)∧(Own h' (.slice ad k cap) 39 k 32 (hcs (lX b k)))∧(Own h' (.slice uv (eW b.length) BD) 32 (eW b.length) 1 (sK n3 b (eW b.length)))∧(Own h' (.slice n3 b.length LK) 5 b.length 1 (b.map bv))∧(Sep h.size h'.size [ad.map (·.block),uv.map (·.block),n3.map (·.block)])∧(Fr a 20 [(3,.slice ad k cap),(7,.slice uv (eW b.length) BD),(8,.int .i64 ((eW b.length :Nat):Int)),(9,.int .i64 ((k:Nat):Int))])) (eW b.length - 0) ⟨0,none,0,rfl,o,kt,(by omega),aV,f,c,d,j.to⟩ ?_
 clear j a
 clear o
 clear kt
 clear aV
 clear f
 clear c
 clear d
 rintro m a M ⟨k,ad,cap,rfl,o,kt,hk,aV,f,c,d,j⟩
 refine qP [(10,.bool (decide (((k:Nat):Int)<((eW b.length :Nat):Int))))] j fun a j=>cS<|cJ 10 j (fun G=> ?_) fun G=> ?_
 ·have H:k<eW b.length :=by omega
  obtain⟨ax,rfl,_⟩:=f.bg (by omega)
  refine cN<|tK<|cS<|cB 1<|qS j<|tI 0 ax (eW b.length) 1 k k<|tC 1 (.slice (sJ n3 k) ((ck b k).length) ((ck b k).length)) (Calm.load (T:=32) (p:=(Addr.add ax k)) (by kernel_rfl) (Loads.one (k:=1) (by kernel_rfl) (wA (i:=k) f rfl (by omega)))) ?_
  refine sT [(5,.slice (sJ n3 k) ((ck b k).length) ((ck b k).length))] fun a j=>rS j<|tG 2 (pk _ (ck b k) (sJ n3 k) ((ck b k).length) (wz c.row H) (.inr fun k2 e=>CQ (b:=b) (i:=k) c e) kt (by rw[iH];omega)) ?_
  rintro _ I ⟨rfl,B⟩
  refine tF 3 (Does.newHs (L:=[cH (ck b k)]) (t:=45) (E:=39) (dV:=32) (n:=1) (by kernel_rfl) (by kernel_rfl) (aq.cons (dp _) aq.nil) rfl (by decide) (by decide)) ?_
  rintro _ C ⟨rfl,hh⟩
  have r:Ext I C:=aY hh
  have A:C[I.size]? =some (.cells (hcs [cH (ck b k)]).toArray 39):=bj hh
  clear hh
  replace o:=o.ext B
  have q:=o.size
  replace d:=d.up B.size
  have a8:=d
  replace d:=a8.new q (ak A)
  clear a8 q
  replace aV:=(aV.ext B).ext r
  refine tP 4 (k+1) 32 (hcs (lX b k++[cH (ck b k)])) aV (hrow1 (dp _) A) (dF _) (fun s u K aV w z=> ?_) (ys:=(hcs ([cH (ck b k)]))) (hZ:=by first|rfl|exact(bh _ _).symm |simp[bh])
  replace o:=o.ext r
  have x:=d
  replace d:=d.sa w 1 z aV o.size;clear z
  refine sE [(3,.slice s (k+1) u)] fun a j=>bK<|tK<|rS j<|tA 0 k 1<|sE [(9,nV (k+1))] fun a j=> ?_
  rw[pd] at aV
  clear A
  replace kt:=((kt.ext B).ext r).grew w (x.zero 1 rfl D)
  replace f:=((f.ext B).ext r).k w (x.ap 2 1)
  replace c:=((c.ext B).ext r).k w (x.ap 3 1)
  replace o:=o.grew w (x.l 1)
  replace d:=d.sub (l':=[s.map (·.block),(some ax).map (·.block),n3.map (·.block)]) (.cons _ (.cons_cons _ (.cons_cons _ (.cons_cons _ (.slnil)))))
  show ∃m',m'<_∧_
  refine⟨_,?_,(k+1),s,u,rfl,o,kt,(by omega),aV,f,c,d,j.to⟩
  omega
 ·refine cX 0 (xT (xT (xB ?_)))
  refine tK<|qP [(2,.slice ad k cap)] j fun a j=>cR<|rT 2 (.slice ad k cap) j ?_
  obtain rfl:k=eW b.length :=by omega
  exact⟨ad,cap,by rw[gT],by rw[gT];exact aV,d.low 0 rfl,o⟩
theorem uw(h:Heap)(b:List UInt8)(va:Option Addr)(vc:Nat)(hr:Row h (.slice va b.length vc) b.length 1 (b.map bv))(hbl:b.length ≤1099511627000)(kt:bl h)(H:List Hs)(hH:lX b (eW b.length)=H):Sat Tryz.prog 97 #[.slice va b.length vc] h fun v h'=>∃ad cap,v= .slice ad H.length cap∧Own h' (.slice ad H.length cap) 39 H.length 32 (hcs H)∧(∀k,ad.map (fun(x:Addr)=>x.block)=some k→h.size ≤k)∧Ext h h':=by
 have:=pw h b va vc hr hbl kt
 unfold bU at this
 rwa [hH] at this
noncomputable def b63:Code:=Tryz.f63.body.getD .skip
theorem ux(h:Heap)(b:List UInt8)(va:Option Addr)(vc:Nat)(hr:Row h (.slice va b.length vc) b.length 1 (b.map bv))(hbl:b.length ≤1099511627000)(kt:bl h):Sat Tryz.prog 63 #[.slice va b.length vc] h fun v h'=>v=hv (root (lX b (eW b.length)))∧Ext h h':=by
 have f:=Ext.refl h
 have d:Sep h.size h.size []:=Sep.nil _ _
 obtain⟨H,hH⟩:∃H,lX b (eW b.length)=H:=⟨_,rfl⟩
 have e:aq H:=hH▸qW _ _
 have MV:H.length =eW b.length :=by rw[←hH,gT]
 have s:=lz b.length
 refine ag Tryz.func63 6 fun a i=>qS i<|tN 0 (pV h.size) ((z32.map bv).toArray) 39 fun u p g=> ?_
 replace d:=d.nw f.size g
 refine sT [(2,pV h.size)] fun a i=>qS i ?_
 replace f:=f.ext p
 replace kt:=kt.ext p
 refine tG 1 (uw _ b _ _ (hr.ext f) hbl kt H hH) ?_
 rintro _ w ⟨t,q,rfl,c,m,k⟩
 replace d:=d.co k m c f.size
 replace kt:=kt.ext k
 refine tG 2 (g_ _ H _ _ H.length (HR.of c e) kt (by omega)) ?_
 rintro _ n ⟨rfl,r⟩
 replace g:=(g.x k).x r
 refine tF 3 (Does.store (b:=h.size) (off:=0) (vs:=(root H).map bv) (l:=z32.map bv) (bn (by kernel_rfl) (hlm (a_ e))) g (hfit rfl (a_ e)) (aE _)) ?_
 rintro _ j ⟨rfl,hh⟩
 have o:Grew (some (h.size)) n j:=bC hh
 replace g:j[h.size]? =some (.cells ((root H).map bv).toArray 39):=bR (off:=0) (vs:=(root H).map bv) (l:=(z32.map bv)) hh (ct rfl (a_ e)) g
 clear hh
 refine sT [] fun a i=>cR<|aI [.cell 2 39] [.agg ((root H).map bv).toArray] (.agg ((root H).map bv).toArray) rfl i ⟨⟨_,rfl,Loads.hash (by kernel_rfl) (a_ e) g⟩,trivial⟩ rfl ?_
 replace f:=((f.ext k).ext r).grew o (d.l 1)
 exact⟨by rw[hH];rfl,f⟩
end Go.Proofs.YtegkejcglfgpmaaGreatDoor
end
section
namespace Go.aN
open Go Go.aj
structure An where
  c:Int
  b:List UInt8
  sx:RB
  se:Int
  sh:Bool
  sg:Bool
  i:List ByteArray
  n:Int
  y:RB
  k:Int
  p:List (List UInt8)
def dh:An:=⟨0,[],dn,0,false,false,[],0,dn,0,[]⟩
def b8(c:Int):An:={dh with c:=c}
@[reducible] def px(A:An)(b i p:Value):Value:= .agg (bN A.c b A.sx A.se A.sh A.sg i A.n A.y A.k p).toArray
def AnsAt(h:Heap)(v:Value)(A:An):Prop:=∃ba bc ia ic pa pc,v=px A (.slice ba A.b.length bc) (.slice ia A.i.length ic) (.slice pa A.p.length pc)∧
  aC h (.slice ba A.b.length bc) A.b.length 1 (A.b.map bv)∧aC h (.slice ia A.i.length ic) A.i.length 1 (A.i.map Value.string)∧aC h (.slice pa A.p.length pc) A.p.length 32 (hcs A.p)∧aq A.p
section
variable {h h':Heap} {v:Value} {A:An}
theorem iK(h:Heap)(c:Int):AnsAt h (px (b8 c) (.slice none 0 0) (.slice none 0 0) (.slice none 0 0)) (b8 c):=
  ⟨none,0,none,0,none,0,rfl,aC.nil _ _,aC.nil _ _,aC.nil _ _,aq.nil⟩
end
def AF(a b c:Option Addr)(k:Nat):Prop:=a.map (fun(x:Addr)=>x.block)=some k∨b.map (fun(x:Addr)=>x.block)=some k∨c.map (fun(x:Addr)=>x.block)=some k
theorem AF.nil{k:Nat}(e:AF none none none k):False:=by rcases e with e|e|e<;>cases e
def n4(W:Nat→Prop)(lo:Nat)(h:Heap)(b p:Nat)(M:Md)(v:Value)(A:An):Prop:=∃ba bc ia ic pa pc,v=px A (.slice ba A.b.length bc) (.slice ia A.i.length ic) (.slice pa A.p.length pc)∧
  Own h (.slice ba A.b.length bc) 5 A.b.length 1 (A.b.map bv)∧Own h (.slice ia A.i.length ic) 9 A.i.length 1 (A.i.map Value.string)∧Own h (.slice pa A.p.length pc) 39 A.p.length 32 (hcs A.p)∧aq A.p ∧
  (∀k,AF ba ia pa k→lo≤k)∧eD (fun k=>W k∨AF ba ia pa k) h b p M
section
variable {W:Nat→Prop} {lo:Nat} {h h' h0:Heap} {b p:Nat} {M:Md} {v:Value} {A:An}
theorem n4.at_(a:n4 W lo h b p M v A):AnsAt h v A:=by
  obtain⟨ba,bc,ia,ic,pa,pc,e,r1,r2,r3,r4,_⟩:=a
  exact⟨ba,bc,ia,ic,pa,pc,e,aC.of r1 (by decide),aC.of r2 (by decide),aC.of r3 (by decide),r4⟩
theorem n4.mod(a:n4 W lo h b p M v A):eD W h b p M:=by
  obtain⟨ba,bc,ia,ic,pa,pc,e,r1,r2,r3,r4,_,m⟩:=a
  exact m.less fun k hk=> .inl hk
theorem e8{n:Nat}:∀k,(none:Option Addr).map (fun(x:Addr)=>x.block)=some k→n≤k:=fun k e=>by cases e
theorem g'{L:List bV}{ck:Nat}{ea:Option Addr}{ec:Nat}{es:List Value}(md:bH W h0 b p M L ck ea ec es)(e:Ext h0 h){ba ia pa:Option Addr}{bc ic pc:Nat}(hv:v=px A (.slice ba A.b.length bc) (.slice ia A.i.length ic) (.slice pa A.p.length pc))(o1:Own h (.slice ba A.b.length bc) 5 A.b.length 1 (A.b.map bv))(g1:∀k,ba.map (fun(x:Addr)=>x.block)=some k→h0.size ≤k)
    (o2:Own h (.slice ia A.i.length ic) 9 A.i.length 1 (A.i.map Value.string)) (g2:∀k,ia.map (fun(x:Addr)=>x.block)=some k→h0.size ≤k) (o3:Own h (.slice pa A.p.length pc) 39 A.p.length 32 (hcs A.p)) (g3:∀k,pa.map (fun(x:Addr)=>x.block)=some k→h0.size ≤k) (h32:aq A.p):
    n4 W h0.size h b p M v A:=
  have hge:∀k,AF ba ia pa k→h0.size ≤k:=fun k e=>e.elim (g1 k) (Or.rec (g2 k) (g3 k))
  ⟨ba,bc,ia,ic,pa,pc,hv,o1,o2,o3,h32,hge,_,_,_,_,_,(md.more fun k=>Or.imp id (hge k)).ext e⟩
theorem j2(m:eD W h b p M)(c:Int):n4 W lo h b p M (px (b8 c) (.slice none 0 0) (.slice none 0 0) (.slice none 0 0)) (b8 c):=
  ⟨none,0,none,0,none,0,rfl,Own.nil _ _ _,Own.nil _ _ _,Own.nil _ _ _,aq.nil,fun _ e=>e.nil.elim,m.less fun _ e=>e.elim id fun e=>e.nil.elim⟩
theorem fF{L:List bV}{ck:Nat}{ea:Option Addr}{ec:Nat}{es:List Value}(md:bH W h0 b p M L ck ea ec es)(e:Ext h0 h)(c:Int):n4 W lo h b p M (px (b8 c) (.slice none 0 0) (.slice none 0 0) (.slice none 0 0)) (b8 c):=j2 ⟨_,_,_,_,_,md.ext e⟩ c
theorem _root_.Go.aj.Own.aO{c:Nat}{cs:Array Value}{E E2:TypeId}{fr:Nat×Nat}{n sz:Nat}{xs:List Value}(o:Own h v E n sz xs)(g:Grew (some c) h h')(m:h[c]? =some (.cells cs E2 fr))(hne:E≠E2):Own h' v E n sz xs:=by
  refine o.kept g ?_
  rcases o.2 with⟨rfl,_⟩|⟨k,off,cap,l,rfl,q,_⟩
  · exact .inl rfl
  · refine .inr fun e => ?_
    simp only[a6,Option.some.injEq] at e
    subst e
    rw[q] at m;cases m;exact hne rfl
end
end Go.aN
namespace Go.Proofs.YtegkejcglfgpmaaGreatDoor
open Go Go.aj Go.aN
noncomputable def c7(M:Md)(kd:Int)(s:ByteArray):An:=
  if aM s=false then b8 210 else match M.f s with
    |none=>b8 211
    | some o => if kd = 3 then { dh with sx := o.b, se := o.e, sh := o.ho, sg := o.go } else if kd = 16 then { dh with c := (cA (cE M.E) o.b.idx).2, k := o.b.idx, p := (cA (cE M.E) o.b.idx).1 } else
      if o.go =true then b8 213 else if kd=2 then {dh with b:=o.dt } else dh
section
variable {M:Md} {kd n:Int} {s:ByteArray} {b:List UInt8} {o:Ob}
theorem sQ(h:aM s=false):c7 M kd s=b8 210:=by unfold c7;rw[if_pos h]
theorem j3(h:aM s=true)(hf:M.f s=none):c7 M kd s=b8 211:=by unfold c7;rw[if_neg (by rw[h];decide),hf]
theorem nf(h:aM s=true)(hf:M.f s=some o)(k:kd=3):c7 M kd s={dh with sx:=o.b,se:=o.e,sh:=o.ho,sg:=o.go }:=by unfold c7;rw[if_neg (by rw[h];decide),hf];simp only[k,if_true]
theorem lC(h:aM s=true)(hf:M.f s=some o)(k:kd=16){p:List (List UInt8)}{e:Int}(hz:cA (cE M.E) o.b.idx =(p,e)):c7 M kd s={dh with c:=e,k:=o.b.idx,p:=p}:=by unfold c7;rw[if_neg (by rw[h];decide),hf];subst k;simp[hz]
theorem ng(h:aM s=true)(hf:M.f s=some o)(k:kd≠3)(k2:kd≠16)(hg:o.go =true):c7 M kd s=b8 213:=by unfold c7;rw[if_neg (by rw[h];decide),hf];simp only[k,k2,if_false,hg,if_true]
theorem lD(h:aM s=true)(hf:M.f s=some o)(k:kd=2)(hg:o.go =false):c7 M kd s={dh with b:=o.dt }:=by unfold c7;rw[if_neg (by rw[h];decide),hf];subst k;simp[hg]
theorem nh(h:aM s=true)(hf:M.f s=some o)(k:kd≠3)(k2:kd≠16)(k3:kd≠2)(hg:o.go =false):c7 M kd s=dh:=by unfold c7;rw[if_neg (by rw[h];decide),hf];simp[k,k2,k3,hg]
end
noncomputable def step(M:Md)(kd n:Int)(s:ByteArray)(b:List UInt8):Md×An:=
  if kd=1 then ((db M s b).1,b8 (db M s b).2) else if kd=4∨kd=5∨kd=6 then ((ff M kd n s).1,b8 (ff M kd n s).2) else if kd=2∨kd=3∨kd=16∨kd=15 then (M,c7 M kd s) else
    if kd=7 then (M,{dh with i:=iJ M}) else if kd=8 then (M,{dh with i:=eE M}) else if kd=9 then (M,{dh with n:=((M.E.length :Nat):Int),y:=pf (root (cE M.E))}) else
    if kd=10 then (⟨M.f,M.E,M.t +min (max 0 n) (1099511627776 - M.t)⟩,dh) else if kd=11∨kd=12∨kd=13∨kd=14 then (M,dh) else (M,b8 1)
section
variable {M:Md} {kd n:Int} {s:ByteArray} {b:List UInt8}
theorem gB(k:kd=1):step M kd n s b=((db M s b).1,b8 (db M s b).2):=by unfold step;rw[if_pos k]
theorem eQ(k:kd=4∨kd=5∨kd=6):step M kd n s b=((ff M kd n s).1,b8 (ff M kd n s).2):=by unfold step;rw[if_neg (by omega),if_pos k]
theorem dr(k:kd=2∨kd=3∨kd=16∨kd=15):step M kd n s b=(M,c7 M kd s):=by unfold step;rw[if_neg (by omega),if_neg (by omega),if_pos k]
theorem py(k:kd=7):step M kd n s b=(M,{dh with i:=iJ M}):=by unfold step;rw[if_neg (by omega),if_neg (by omega),if_neg (by omega),if_pos k]
theorem pz(k:kd=8):step M kd n s b=(M,{dh with i:=eE M}):=by unfold step;rw[if_neg (by omega),if_neg (by omega),if_neg (by omega),if_neg (by omega),if_pos k]
theorem step_head(k:kd=9):step M kd n s b=(M,{dh with n:=((M.E.length :Nat):Int),y:=pf (root (cE M.E))}):=by unfold step;rw[if_neg (by omega),if_neg (by omega),if_neg (by omega),if_neg (by omega),if_neg (by omega),if_pos k]
theorem eJ(k:kd=10):step M kd n s b=(⟨M.f,M.E,M.t +min (max 0 n) (1099511627776 - M.t)⟩,dh):=by unfold step;rw[if_neg (by omega),if_neg (by omega),if_neg (by omega),if_neg (by omega),if_neg (by omega),if_neg (by omega),if_pos k]
theorem b1(k:kd=11∨kd=12∨kd=13∨kd=14):step M kd n s b=(M,dh):=by unfold step;rw[if_neg (by omega),if_neg (by omega),if_neg (by omega),if_neg (by omega),if_neg (by omega),if_neg (by omega),if_neg (by omega),if_pos k]
theorem kN(h1:kd≠1)(h2:¬(kd=4∨kd=5∨kd=6))(h3:¬(kd=2∨kd=3∨kd=16∨kd=15))(h7:kd≠7)(h8:kd≠8)(h9:kd≠9)(h10:kd≠10)(h11:¬(kd=11∨kd=12∨kd=13∨kd=14)):step M kd n s b=(M,b8 1):=by
  unfold step;rw[if_neg h1,if_neg h2,if_neg h3,if_neg h7,if_neg h8,if_neg h9,if_neg h10,if_neg h11]
end
end Go.Proofs.YtegkejcglfgpmaaGreatDoor
end
section
namespace Go.aj
open Go Go.aN
section
variable {P:Program}
def FE(P:Program)(d:Nat)(xs ys:Array Value)(f:Field)(q:Bool):Prop:=∀w:World,∃a b,(part f.type xs f.offset).run P w= .ok a w∧(part f.type ys f.offset).run P w= .ok b w∧(Op.equalIn (d+1) f.type a b).run P w= .ok q w
theorem FE.bool{d:Nat}{xs ys:Array Value}{f:Field}{a b:Bool}(hu:P.underlying f.type =some .bool)(hx:xs[f.offset]? =some (.bool a))(hy:ys[f.offset]? =some (.bool b)):FE P d xs ys f (a==b):=fun w=>
  ⟨_,_,dm hu rfl hx w,dm hu rfl hy w,by simp[Op.equalIn,run_underlying hu]⟩
theorem FE.int{d:Nat}{xs ys:Array Value}{f:Field}{k k':IntKind}{a b:Int}(hu:P.underlying f.type =some (.int k'))(hx:xs[f.offset]? =some (.int k a))(hy:ys[f.offset]? =some (.int k b)):FE P d xs ys f (a==b):=fun w=>
  ⟨_,_,dm hu rfl hx w,dm hu rfl hy w,by simp[Op.equalIn,run_underlying hu]⟩
theorem FE.bytes{d n:Nat}{xs ys:Array Value}{f:Field}{e:TypeId}{inf Ai:TypeInfo}{l r:List UInt8}(hu:P.underlying f.type =some (.array n e))(he:P.underlying e=some (.int .u8))(hi:P.info? e=some inf)(hs:inf.size =1)(hi2:P.info? f.type =some Ai)(hs2:Ai.size =n)
    (hx:xs.extract f.offset (f.offset +n)=(l.map bv).toArray) (hy:ys.extract f.offset (f.offset +n)=(r.map bv).toArray) (hl:l.length =n) (hr:r.length =n):FE P (d+1) xs ys f (decide (l=r)):=fun w=>by
  have hp:∀zs:Array Value,(part f.type zs f.offset).run P w= .ok (.agg (zs.extract f.offset (f.offset +n))) w:=fun zs=>by
    unfold part
    simp[isAgg,run_underlying hu,sizeOf,typeInfo,program,Sem.run,hi2,hs2]
  exact⟨_,_,hp xs,hp ys,by rw[hx,hy];exact fx d hu he hi hs l r hl hr w⟩
inductive Ft(P:Program)(d:Nat)(xs ys:Array Value):List Field→List Bool→Prop
  |nil:Ft P d xs ys [] []
  |cons {f fs q qs} (h:FE P d xs ys f q) (hn:f.name ≠ "_") (t:Ft P d xs ys fs qs):Ft P d xs ys (f::fs) (q::qs)
theorem iz{t:TypeId}{fs:Array Field}{d:Nat}{xs ys:Array Value}{qs:List Bool}(ht:P.underlying t=some (.struct fs))(hs:P.stoodInHeld t=false)(hq:Ft P d xs ys fs.toList qs)(w:World):
    (Op.equalIn (d+2) t (.agg xs) (.agg ys)).run P w= .ok (qs.all id) w:=by
  have hloop:∀(l:List Field) (qs:List Bool),Ft P d xs ys l qs→(forIn l ((none:Option Bool),()) fun f __s=>(do
            if f.name ≠ "_" then do
              let a←part f.type xs f.offset
              let b←part f.type ys f.offset
              let c←Op.equalIn (d+1) f.type a b
              if (!c)=true then pure (ForInStep.done (some false,())) else pure (ForInStep.yield (none,()))
            else pure (ForInStep.yield (none,())):Sem (ForInStep (Option Bool×Unit)))).run P w= .ok (if qs.all id=true then none else some false,()) w:=by
    intro l qs h
    induction h with
    |nil=>rfl
    | @cons f fs q qs h hn t ih =>
      obtain⟨a,b,e1,e2,e3⟩:=h w
      rw[List.forIn_cons]
      simp only[hn,if_true,Sem.run_bind,e1,e2,e3,Result.andThen_ok,ne_eq,not_false_eq_true]
      cases q with
      |true=>simp only[Bool.not_true,Bool.false_eq_true,if_false,Sem.run_pure,Result.andThen_ok,List.all_cons,id,Bool.true_and];exact ih
      |false=>simp
  unfold Op.equalIn
  simp only[Sem.run_bind,run_underlying ht,Result.andThen_ok,program,Sem.run,hs,Bool.false_eq_true,if_false, ←Array.forIn_toList]
  have:=hloop fs.toList qs hq
  first|rw[this]| (erw [this])
  cases qs.all id<;>simp
def Fu (P : Program) (e : Operand → Value) (o : Oper) : Option (Bool × TypeId × Array Value × Array Value) :=
  match o.op with
  | .binOp op t x y _ => match e x, e y with
    | .agg a, .agg b => match P.eqGuardType P.depth t with
      | false => match op with
        | .eql =>some (true,t,a,b)
        | .neq =>some (false,t,a,b)
        |_=>none
      |true=>none
    |_,_=>none
  |_=>none
def Fv(P:Program)(ops:Array Oper)(base:Nat→Value)(vals:aR)(i:Nat):=(iV ops base vals i).bind (Fu P (env ops base vals i))
theorem Calm.Fw{ops:Array Oper}{base:Nat→Value}{vals:aR}{i:Nat}{q r:Bool}{t:TypeId}{xs ys:Array Value}(hx:Fv P ops base vals i=some (q,t,xs,ys))(hr:∀w:World,(Op.equalIn 10000 t (.agg xs) (.agg ys)).run P w= .ok r w)(h:Heap):
    Calm P ops base vals i h (.bool (if q=true then r else !r)):=by
  refine aS hx fun o ho w hw=> ?_
  have hrun:(execOp (env ops base vals i) o).run P w= .ok (.value (.bool (if q=true then r else !r))) w:=by
    unfold Fu at ho
    cases hop:o.op with
    | binOp op t x y T' =>
      simp only[hop] at ho
      cases ha:env ops base vals i x<;>simp only[ha] at ho<;>first| (cases ho;done)|skip
      cases hb:env ops base vals i y<;>simp only[hb] at ho<;>first| (cases ho;done)|skip
      cases hg:P.eqGuardType P.depth t with
      |true=>simp[hg] at ho
      | false =>
        simp only[hg] at ho
        cases op<;>simp only[Option.some.injEq,Prod.mk.injEq] at ho<;>first| (cases ho;done)|skip
        · obtain ⟨rfl, rfl, h1, h2⟩ := ho
          subst h1;subst h2
          unfold execOp
          simp[hop,eqGuard,binOp,ha,hb,hg,Op.equal,Op.maxDepth,hr w,program,Sem.run]
        · obtain ⟨rfl, rfl, h1, h2⟩ := ho
          subst h1;subst h2
          unfold execOp
          simp[hop,eqGuard,binOp,ha,hb,hg,Op.equal,Op.maxDepth,hr w,program,Sem.run]
    |_=>simp[hop] at ho
  rw[hrun]
  exact⟨Same.refl w,rfl,hw⟩
end
end Go.aj
namespace Go.aN
open Go Go.aj
def fG(x:RB)(e:Int)(ho go:Bool)(x':RB)(e':Int)(ho' go':Bool):Bool:=[x.len ==x'.len,decide (hl x=hl x'),x.idx ==x'.idx,e==e',ho==ho',go==go'].all id
def ma(n:Int)(y:RB)(n':Int)(y':RB):Bool:=[n==n',decide (hl y=hl y')].all id
theorem hU(x:RB)(e:Int)(ho go:Bool):fG x e ho go x e ho go=true:=by simp[fG]
theorem h_(n:Int)(y:RB):ma n y n y=true:=by simp[ma]
end Go.aN
namespace Go.Proofs.YtegkejcglfgpmaaGreatDoor
open Go Go.aj Go.aN
theorem jt(x:RB)(e:Int)(ho go:Bool)(x':RB)(e':Int)(ho' go':Bool)(w:World):(Op.equalIn 10000 41 (.agg (vn x e ho go).toArray) (.agg (vn x' e' ho' go').toArray)).run Tryz.prog w= .ok (fG x e ho go x' e' ho' go') w:=by
  refine iz (d:=9998) Tryz.underlying41 (by kernel_rfl) ?_ w
  exact .cons (.int (k':= .i64) (by kernel_rfl) rfl rfl) (by decide)<| .cons (.bytes (d:=9997) (n:=32) (e:=5) (l:=hl x) (r:=hl x') (inf:=Tryz.t5) (Ai:=Tryz.t39) (by kernel_rfl) (by kernel_rfl) (by kernel_rfl) (by kernel_rfl) (by kernel_rfl) (by kernel_rfl) (by kernel_rfl) (by kernel_rfl) rfl rfl) (by decide)<| .cons (.int (k':= .i64) (by kernel_rfl) rfl rfl) (by decide)<| .cons (.int (k':= .i64) (by kernel_rfl) rfl rfl) (by decide)<| .cons (.bool (by kernel_rfl) rfl rfl) (by decide)<| .cons (.bool (by kernel_rfl) rfl rfl) (by decide)<| .nil
theorem wL(n:Int)(y:RB)(n':Int)(y':RB)(w:World):(Op.equalIn 10000 44 (.agg (hdc n y).toArray) (.agg (hdc n' y').toArray)).run Tryz.prog w= .ok (ma n y n' y') w:=by
  refine iz (d:=9998) Tryz.underlying44 (by kernel_rfl) ?_ w
  exact .cons (.int (k':= .i64) (by kernel_rfl) rfl rfl) (by decide)<| .cons (.bytes (d:=9997) (n:=32) (e:=5) (l:=hl y) (r:=hl y') (inf:=Tryz.t5) (Ai:=Tryz.t39) (by kernel_rfl) (by kernel_rfl) (by kernel_rfl) (by kernel_rfl) (by kernel_rfl) (by kernel_rfl) (by kernel_rfl) (by kernel_rfl) rfl rfl) (by decide)<| .nil
end Go.Proofs.YtegkejcglfgpmaaGreatDoor
namespace Go.aN
open Go Go.aj
/-! ### a clone -/
def pr(x:bV):ByteArray×Value:=(x.1,x.2.1)
theorem fp{W:Nat→Prop}{es:List Value}{h:Heap}{E:List (List UInt8)}(en:ep W h es E):∀u∈es,u.oneCell' =true:=fun u hu=>by
  obtain⟨i,hi,rfl⟩:=List.getElem_of_mem hu
  have hl:i<E.length :=by rw[←en.1];exact hi
  obtain⟨_,a,c,e,_⟩:=en.2 i _ (List.getElem?_eq_getElem hl)
  rw[List.getElem?_eq_getElem hi] at e
  rw[Option.some.inj e];rfl
theorem wM{N D:List bV}(h:N.map pr=D.map pr){x:bV}(hx:x∈N):∃y∈D,y.1 =x.1 ∧y.2.1 =x.2.1 :=by
  have:pr x∈D.map pr:=h▸List.mem_map.2 ⟨x,hx,rfl⟩
  obtain⟨y,hy,e⟩:=List.mem_map.1 this
  simp only[pr,Prod.mk.injEq] at e
  exact⟨y,hy,e.1,e.2⟩
theorem C7{N D:List bV}(h:N.map pr=D.map pr):N.map (fun x=>x.1)=D.map fun x=>x.1 :=by
  have e:∀l:List bV,l.map (fun x=>x.1)=(l.map pr).map Prod.fst :=fun l=>by rw[List.map_map];rfl
  rw[e,e,h]
theorem sR{N D:List bV}(h:N.map pr=D.map pr){x:bV}{v:Value}(hv:x.2.1 =v)(k:Nat):(N++[(x.1,v,k)]).map pr=(D++[x]).map pr:=by
  rw[List.map_append,List.map_append,h];subst hv;rfl
theorem wN{N D R L:List bV}{x:bV}(h:N.map pr=D.map pr)(hp:(D++[x]++R).Perm L)(nd:(L.map fun x=>x.1).Nodup):∀y∈N,y.1 ≠x.1 :=fun y hy e=>by
  obtain⟨z,hz,e1,_⟩:=wM h hy
  have hn:((D++[x]++R).map fun x=>x.1).Nodup :=(hp.map _).nodup_iff.2 nd
  rw[List.append_assoc,List.map_append,List.nodup_append] at hn
  exact hn.2.2 z.1 (List.mem_map.2 ⟨z,hz,rfl⟩) x.1 (by simp) (e1.trans e)
theorem _root_.Go.aj.Born.nil :Born [] ([]:List bV).length :=⟨by simp,by simp⟩
theorem _root_.Go.aj.Born.one{N:List bV}(b:Born N N.length)(s:ByteArray)(v:Value):Born (N++[(s,v,N.length)]) (N++[(s,v,N.length)]).length :=by
  rw[List.length_append,List.length_singleton];exact b.snoc s v
theorem bH.cloned{W:Nat→Prop}{h h':Heap}{b p c q:Nat}{M:Md}{L N D:List bV}{ck:Nat}{ea ca:Option Addr}{ec cc:Nat}{es:List Value}(m:bH W h b p M L ck ea ec es)(e:Ext h h')(hc:h'[c]? =some (.cells #[.map (some q), .slice ca M.E.length cc, .int .i64 M.t] 83))(hq:h'[q]? =some (.map (ents N) N.length))
    (hN:N.map pr=D.map pr) (hP:D.Perm L) (bo:Born N N.length) (own:Own h' (.slice ca M.E.length cc) 32 M.E.length 1 es) (kc:h.size ≤c) (kq:h.size ≤q) (hW:∀k,W k→k<h.size) (hge:∀k,ca.map (fun(x:Addr)=>x.block)=some k→h.size ≤k):eD W h' c q M:=
  have hl:N.length =L.length :=by have:=congrArg List.length hN;simp at this;rw[this,hP.length_eq]
  have kb:=m.kb
  have hb:=ak m.hm
  ⟨N,N.length,ca,cc,es,
  { hm := hc
    hp:=hq
    bo:=bo
    nd:=by rw[C7 hN];exact(hP.map _).nodup_iff.2 m.nd
    ob:=fun x hx=>by
      obtain⟨y,hy,e1,e2⟩:=wM hN hx
      obtain⟨o,h1,h2⟩:=m.ob y (hP.mem_iff.1 hy)
      rw[e1] at h1 h2;rw[e2] at h2
      exact⟨o,h1,h2.ext e⟩
    al:=fun s o hs=>by
      obtain⟨y,hy,e1⟩:=m.al s o hs
      have:pr y∈N.map pr:=hN▸List.mem_map.2 ⟨y,hP.mem_iff.2 hy,rfl⟩
      obtain⟨x,hx,e2⟩:=List.mem_map.1 this
      simp only[pr,Prod.mk.injEq] at e2
      exact⟨x,hx,e2.1.trans e1⟩
    er:=cr.new own (by decide) hW hge
    en:=m.en.ext e
    ln:=by rw[hl,m.ln]
    t0:=m.t0
    t1:=m.t1
    kb:=by omega
    kp:=by omega}⟩
end Go.aN
namespace Go.aN
open Go Go.aj
theorem bH.at{W:Nat→Prop}{h:Heap}{b p:Nat}{M:Md}{L:List bV}{ck:Nat}{ea:Option Addr}{ec:Nat}{es:List Value}(m:bH W h b p M L ck ea ec es){s:ByteArray}{o:Ob}(hf:M.f s=some o):
    ∃x∈L,x.1 =s∧∃ca cc ba bc,x.2.1 =EN o (.slice ca 0 cc) (.slice ba o.dt.length bc)∧aC h (.slice ba o.dt.length bc) o.dt.length 1 (o.dt.map bv):=by
  rcases m.find s with⟨h1,_⟩|⟨A,x,B,o',rfl,h2,h3,_,_,ca,cc,ba,bc,h4,_,h5⟩
  · rw[hf] at h1;cases h1
  · rw [hf] at h3; cases h3
    exact⟨x,by simp,h2,ca,cc,ba,bc,h4,h5.1⟩
/-! ### the judge -/
def az(A B:An):Int:=
  if A.c ≠B.c then 1 else if A.b ≠B.b then 2 else if fG A.sx A.se A.sh A.sg B.sx B.se B.sh B.sg =false then 3 else if A.i ≠B.i then 4 else if ma A.n A.y B.n B.y =false then 5 else if A.k ≠B.k ∨A.p ≠B.p then 6 else 0
section
variable {A B:An}
theorem BE(h:A.c ≠B.c):az A B=1:=by unfold az;rw[if_pos h]
theorem rule2(h1:A.c =B.c)(h:A.b ≠B.b):az A B=2:=by unfold az;rw[if_neg (fun k=>k h1),if_pos h]
theorem Fx(h1:A.c =B.c)(h2:A.b =B.b)(h:fG A.sx A.se A.sh A.sg B.sx B.se B.sh B.sg =false):az A B=3:=by unfold az;rw[if_neg (fun k=>k h1),if_neg (fun k=>k h2),if_pos h]
theorem Fy(h1:A.c =B.c)(h2:A.b =B.b)(h3:fG A.sx A.se A.sh A.sg B.sx B.se B.sh B.sg =true)(h:A.i ≠B.i):az A B=4:=by unfold az;rw[if_neg (fun k=>k h1),if_neg (fun k=>k h2),if_neg (by rw[h3];decide),if_pos h]
theorem Fz(h1:A.c =B.c)(h2:A.b =B.b)(h3:fG A.sx A.se A.sh A.sg B.sx B.se B.sh B.sg =true)(h4:A.i =B.i)(h:ma A.n A.y B.n B.y =false):az A B=5:=by unfold az;rw[if_neg (fun k=>k h1),if_neg (fun k=>k h2),if_neg (by rw[h3];decide),if_neg (fun k=>k h4),if_pos h]
theorem BF(h1:A.c =B.c)(h2:A.b =B.b)(h3:fG A.sx A.se A.sh A.sg B.sx B.se B.sh B.sg =true)(h4:A.i =B.i)(h5:ma A.n A.y B.n B.y =true)(h:A.k ≠B.k ∨A.p ≠B.p):az A B=6:=by
  unfold az;rw[if_neg (fun k=>k h1),if_neg (fun k=>k h2),if_neg (by rw[h3];decide),if_neg (fun k=>k h4),if_neg (by rw[h5];decide),if_pos h]
theorem pA(h1:A.c =B.c)(h2:A.b =B.b)(h3:fG A.sx A.se A.sh A.sg B.sx B.se B.sh B.sg =true)(h4:A.i =B.i)(h5:ma A.n A.y B.n B.y =true)(h6:A.k =B.k)(h7:A.p =B.p):az A B=0:=by
  unfold az;rw[if_neg (fun k=>k h1),if_neg (fun k=>k h2),if_neg (by rw[h3];decide),if_neg (fun k=>k h4),if_neg (by rw[h5];decide),if_neg (by rintro(k|k);exact k h6;exact k h7)]
end
/-! strings, lists -/
theorem ju(s t:ByteArray):(s.toList ==t.toList)=decide (s=t):=by
  by_cases e:s=t
  · subst e;simp
  · rw [decide_eq_false e]
    cases h:(s.toList ==t.toList) with
    |false=>rfl
    | true =>
      exfalso
      have h1:=eq_of_beq h
      rw[Lib.toList_data,Lib.toList_data] at h1
      apply e
      cases s;cases t
      simp only[ByteArray.mk.injEq]
      rename_i a b
      rw[←Array.toArray_toList (xs:=a), ←Array.toArray_toList (xs:=b)]
      exact congrArg List.toArray h1
theorem mk_inj{a b:List UInt8}:(ByteArray.mk a.toArray =ByteArray.mk b.toArray)↔a=b:=by
  constructor
  · intro h;simpa using h
  · intro h;rw[h]
theorem wO(a b:List UInt8):((ByteArray.mk a.toArray).toList ==(ByteArray.mk b.toArray).toList)=decide (a=b):=by
  rw[ju];exact decide_eq_decide.2 mk_inj
theorem pB{α:Type}[Inhabited α]{l r:List α}{k:Nat}{d:α}(h:l.take k=r.take k)(hl:k<l.length)(hr:k<r.length)(e:l.getD k d=r.getD k d):l.take (k+1)=r.take (k+1):=by
  rw[List.take_succ_eq_append_getElem hl,List.take_succ_eq_append_getElem hr,h]
  have:l[k]=r[k]:=by simpa[List.getD,hl,hr] using e
  rw[this]
theorem lE{α:Type}{l r:List α}{k:Nat}{d:α}(e:l.getD k d≠r.getD k d):l≠r:=fun h=>e (by rw[h])
/-! ### candidates -/
structure CA(h:Heap)(bs:List (Nat×Nat))(Ms:List Md):Prop where
  len:bs.length =Ms.length
  at_:∀(i:Nat) (x:Nat×Nat) (M:Md),bs[i]? =some x→Ms[i]? =some M→Mod h x.1 x.2 M
  nb:(bs.map fun x=>x.1).Nodup
  np:(bs.map fun x=>x.2).Nodup
theorem BG{α β:Type}{l:List α}{f:α→β}(h:(l.map f).Nodup){i j:Nat}{x y:α}(hi:l[i]? =some x)(hj:l[j]? =some y)(hne:i≠j):f x≠f y:=fun e=>by
  have hi':(l.map f)[i]? =some (f x):=by rw[List.getElem?_map,hi];rfl
  have hj':(l.map f)[j]? =some (f x):=by rw[List.getElem?_map,hj,e];rfl
  obtain⟨h1,h2⟩:=List.getElem?_eq_some_iff.1 hi'
  obtain⟨h3,h4⟩:=List.getElem?_eq_some_iff.1 hj'
  have hp:=List.pairwise_iff_getElem.1 h
  rcases Nat.lt_or_gt_of_ne hne with k|k
  · exact hp i j h1 h3 k (h2.trans h4.symm)
  · exact hp j i h3 h1 k (h4.trans h2.symm)
section
variable {h h':Heap} {bs:List (Nat×Nat)} {Ms:List Md}
theorem Mod.kb{b p:Nat}{M:Md}(m:Mod h b p M):b<h.size ∧p<h.size :=by obtain⟨_,_,_,_,_,m⟩:=m;exact⟨ak m.hm,ak m.hp⟩
theorem CA.ext(c:CA h bs Ms)(g:Ext h h'):CA h' bs Ms:=⟨c.len,fun i x M h1 h2=>(c.at_ i x M h1 h2).ext g,c.nb,c.np⟩
theorem CA.fr{F:Nat→Prop}(c:CA h bs Ms)(g:Gr F h h')(hF:∀k,F k→aZ h k)(h1:∀x∈bs,¬F x.1 ∧¬F x.2):CA h' bs Ms:=
  ⟨c.len,fun i x M e1 e2=>(c.at_ i x M e1 e2).fr g hF (h1 x (List.mem_of_getElem? e1)).1 (h1 x (List.mem_of_getElem? e1)).2,c.nb,c.np⟩
theorem CA.set{i:Nat}{x:Nat×Nat}{M M':Md}(c:CA h bs Ms)(hx:bs[i]? =some x)(hM:Ms[i]? =some M)(g:MG x.1 x.2 h h')(m':Mod h' x.1 x.2 M'):CA h' bs (Ms.set i M'):=by
  refine⟨by rw[List.length_set];exact c.len,fun j y N h1 h2=> ?_,c.nb,c.np⟩
  by_cases e:j=i
  · subst e
    rw[hx] at h1;cases h1
    have hl:=(List.getElem?_eq_some_iff.1 hM).1
    rw[List.getElem?_set_self hl] at h2;cases h2
    exact m'
  · rw [List.getElem?_set_ne (Ne.symm e)] at h2
    exact(c.at_ j y N h1 h2).other (c.at_ i x M hx hM) g (BG c.nb h1 hx e) (BG c.np h1 hx e)
end
theorem n5{α:Type}(f:α→α){l:List α}{i:Nat}{x:α}(h:l[i]? =some x):((l.take i).map f++l.drop i).set i (f x)=(l.take (i+1)).map f++l.drop (i+1):=by
  obtain⟨hi,rfl⟩:=List.getElem?_eq_some_iff.1 h
  have hl:((l.take i).map f).length =i:=by rw[List.length_map,List.length_take];omega
  rw[List.set_append_right _ _ (by omega),hl,Nat.sub_self,List.drop_eq_getElem_cons hi,List.set_cons_zero,List.take_succ_eq_append_getElem hi,List.map_append]
  simp
theorem j4{α:Type}(f:α→α){l:List α}{i:Nat}{x:α}(h:l[i]? =some x):((l.take i).map f++l.drop i)[i]? =some x:=by
  obtain⟨hi,rfl⟩:=List.getElem?_eq_some_iff.1 h
  have hl:((l.take i).map f).length =i:=by rw[List.length_map,List.length_take];omega
  rw[List.getElem?_append_right (by omega),hl,Nat.sub_self,List.getElem?_drop,Nat.add_zero];exact h
@[reducible] def lF(x:Nat×Nat):Value:= .pointer (some ⟨x.1,0,none⟩)
structure Jd where
  c:List Md
  off:Bool
  aD:Bool
  qj:Bool
  gave:Bool
def kC(h:Heap)(v:Value)(n:Nat)(xs:List Value):Prop:=Row h v n 1 xs∧(n=0∨∃k cs fr,a6 v=some k∧h[k]? =some (.cells cs 55 fr))
def Aj(h:Heap)(k:Nat):Prop:=∀cs fr,h[k]? ≠some (.cells cs 55 fr)
theorem kC.fr{h h':Heap}{v:Value}{n:Nat}{xs:List Value}{F:Nat→Prop}(r:kC h v n xs)(g:Gr F h h')(hF:∀k,F k→Aj h k):kC h' v n xs:=by
  rcases r.2 with h0|⟨k,ds,fr',e,m⟩
  · exact⟨r.1.zero h0, .inl h0⟩
  · have nk : ¬ F k := fun hk => hF k hk _ _ m
    have m':h'[k]? =some (.cells ds 55 fr'):=by rw[g.2 k (ak m) nk];exact m
    refine⟨⟨r.1.1,r.1.2.imp id ?_⟩, .inr ⟨k,ds,fr',e,m'⟩⟩
    rintro⟨a,cap,rfl,hc,hx⟩
    simp only[a6,Option.some.injEq] at e
    subst e
    refine⟨a,cap,rfl,hc,fun j u hu=> ?_⟩
    rw[dz (h:=h) (h':=h') (p:=a.add j) (by rw[add_block,m',m])]
    exact hx j u hu
theorem kC.of{h:Heap}{v:Value}{n:Nat}{xs:List Value}(o:Own h v 55 n 1 xs):kC h v n xs:=by
  refine⟨o.row, ?_⟩
  rcases o.2 with⟨rfl,h0⟩|⟨g,off,cap,l,rfl,m,_⟩
  · exact .inl h0
  · exact .inr ⟨g,l,(0,0),rfl,m⟩
theorem kC.ext{h h':Heap}{v:Value}{n:Nat}{xs:List Value}(r:kC h v n xs)(g:Ext h h'):kC h' v n xs:=r.fr (F:=fun _=>False) ⟨g.1,fun k hk _=>g.2 k hk (by simp)⟩ (fun _ h=>h.elim)
structure JA(h:Heap)(jb:Nat)(bs:List (Nat×Nat))(J:Jd)(ca:Option Addr)(cc:Nat):Prop where
  hj:h[jb]? =some (.cells #[.slice ca bs.length cc, .bool J.off, .bool J.aD, .bool J.qj, .bool J.gave] 77)
  row:kC h (.slice ca bs.length cc) bs.length (bs.map lF)
  cs:CA h bs J.c
def JF(jb:Nat)(bs:List (Nat×Nat))(k:Nat):Prop:=k=jb∨∃x∈bs,k=x.1 ∨k=x.2
def hdF(f:Md→Md×Int):List Md→Int
  |[]=>0
  |M::_=>(f M).2
def bx(J:Jd)(f:Md→Md×Int):Jd×Int:=
  if (J.c.map f).filter (fun y=>decide (y.2 =0))=[] then ({J with c:=J.c.map fun M=>(f M).1 },hdF f J.c)
  else ({J with c:=((J.c.map f).filter fun y=>decide (y.2 =0)).map fun y=>y.1 },0)
def bP(f:Md→Md×Int)(bs:List (Nat×Nat))(Ms:List Md)(i:Nat):List (Nat×Nat):=(((bs.zip Ms).take i).filter fun z=>decide ((f z.2).2 =0)).map fun z=>z.1
section
variable {f:Md→Md×Int} {bs:List (Nat×Nat)} {Ms:List Md} {i:Nat} {x:Nat×Nat} {M:Md}
theorem wP(hx:bs[i]? =some x)(hM:Ms[i]? =some M):(bs.zip Ms)[i]? =some (x,M):=by
  rw[List.getElem?_zip_eq_some];exact⟨hx,hM⟩
theorem pC(hx:bs[i]? =some x)(hM:Ms[i]? =some M)(h:(f M).2 =0):bP f bs Ms (i+1)=bP f bs Ms i++[x]:=by
  unfold bP;rw[List.take_add_one,wP hx hM,List.filter_append,List.map_append];simp[h]
theorem sS(hx:bs[i]? =some x)(hM:Ms[i]? =some M)(h:(f M).2 ≠0):bP f bs Ms (i+1)=bP f bs Ms i:=by
  unfold bP;rw[List.take_add_one,wP hx hM,List.filter_append,List.map_append];simp[h]
theorem sU:(bP f bs Ms i).length ≤i:=by
  unfold bP;rw[List.length_map];exact Nat.le_trans (List.length_filter_le _ _) (by rw[List.length_take];omega)
theorem jv:∀y∈bP f bs Ms i,y∈bs:=fun y hy=>by
  unfold bP at hy
  obtain⟨z,hz,rfl⟩:=List.mem_map.1 hy
  exact(List.of_mem_zip (List.mem_of_mem_take (List.mem_filter.1 hz).1)).1
theorem kO(hl:bs.length =Ms.length):(((bs.zip Ms).filter fun z=>decide ((f z.2).2 =0)).map fun z=>(f z.2).1)=((Ms.map f).filter fun y=>decide (y.2 =0)).map fun y=>y.1 :=by
  have e:Ms=(bs.zip Ms).map Prod.snd :=(List.map_snd_zip (by omega)).symm
  conv=>rhs;rw[e]
  rw[List.map_map,List.filter_map,List.map_map]
  rfl
theorem CA.fit{h:Heap}(c:CA h bs (Ms.map fun M=>(f M).1))(hl:bs.length =Ms.length):CA h (bP f bs Ms bs.length) (((Ms.map f).filter fun y=>decide (y.2 =0)).map fun y=>y.1):=by
  have hz:(bs.zip Ms).take bs.length =bs.zip Ms:=List.take_of_length_le (by rw[List.length_zip];omega)
  have hsub:∀g:Nat×Nat→Nat,((bP f bs Ms bs.length).map g).Sublist (bs.map g):=fun g=>by
    unfold bP;rw[hz]
    refine List.Sublist.map _ ?_
    have:=(List.filter_sublist (p:=fun z:(Nat×Nat)×Md=>decide ((f z.2).2 =0)) (l:=bs.zip Ms)).map Prod.fst
    rwa [List.map_fst_zip (by omega)] at this
  refine⟨?_,fun i x M h1 h2=> ?_,List.Nodup.sublist (hsub _) c.nb,List.Nodup.sublist (hsub _) c.np⟩
  · rw[←kO hl];unfold bP;rw[hz,List.length_map,List.length_map]
  · rw [← kO hl] at h2
    unfold bP at h1
    rw[hz] at h1
    rw[List.getElem?_map] at h1 h2
    cases hq:((bs.zip Ms).filter fun z=>decide ((f z.2).2 =0))[i]? with
    |none=>rw[hq] at h1;cases h1
    | some z =>
      rw[hq] at h1 h2
      simp only[Option.map_some,Option.some.injEq] at h1 h2
      subst h1;subst h2
      obtain⟨j,hj⟩:=List.getElem?_of_mem (List.mem_filter.1 (List.mem_of_getElem? hq)).1
      rw[List.getElem?_zip_eq_some] at hj
      exact c.at_ j z.1 (f z.2).1 hj.1 (by rw[List.getElem?_map,hj.2];rfl)
theorem sV(hl:bs.length =Ms.length)(h:(bP f bs Ms bs.length).length =0):(Ms.map f).filter (fun y=>decide (y.2 =0))=[]:=by
  have e:=List.eq_nil_of_length_eq_zero h
  have hz:(bs.zip Ms).take bs.length =bs.zip Ms:=List.take_of_length_le (by rw[List.length_zip];omega)
  unfold bP at e
  rw[hz,List.map_eq_nil_iff] at e
  have:=kO (f:=f) hl
  rw[e] at this
  exact List.map_eq_nil_iff.1 this.symm
theorem wQ(hl:bs.length =Ms.length)(h:(bP f bs Ms bs.length).length ≠0):(Ms.map f).filter (fun y=>decide (y.2 =0))≠[]:=fun e=>by
  apply h
  have hz:(bs.zip Ms).take bs.length =bs.zip Ms:=List.take_of_length_le (by rw[List.length_zip];omega)
  have:=kO (f:=f) hl
  rw[e,List.map_nil,List.map_eq_nil_iff] at this
  unfold bP;rw[hz,this];rfl
end
def au(kd:Int):Bool×Bool:=if kd=1∨kd=4∨kd=5∨kd=6 then (true,true) else if kd=2∨kd=3∨kd=7∨kd=8∨kd=9∨kd=11∨kd=15∨kd=16 then (true,false) else (false,false)
theorem cu{kd:Int}(h:kd=1∨kd=4∨kd=5∨kd=6):au kd=(true,true):=by unfold au;rw[if_pos h]
theorem bT{kd:Int}(h:¬(kd=1∨kd=4∨kd=5∨kd=6))(k:kd=2∨kd=3∨kd=7∨kd=8∨kd=9∨kd=11∨kd=15∨kd=16):au kd=(true,false):=by unfold au;rw[if_neg h,if_pos k]
theorem dX{kd:Int}(h:¬(kd=1∨kd=4∨kd=5∨kd=6))(k:¬(kd=2∨kd=3∨kd=7∨kd=8∨kd=9∨kd=11∨kd=15∨kd=16)):au kd=(false,false):=by unfold au;rw[if_neg h,if_neg k]
theorem aC.uy{h h':Heap}{b p:Nat}{M:Md}{v:Value}{n sz:Nat}{xs:List Value}(r:aC h v n sz xs)(g:MG b p h h')(m:Mod h b p M):aC h' v n sz xs:=by
  obtain⟨_,_,_,_,_,m⟩:=m;exact r.mg g m.hm m.hp
end Go.aN
namespace Go.aN
open Go Go.aj
theorem Gr.wR{F G:Nat→Prop}{a b c:Heap}(k:Gr F a b)(g:Gr G b c)(hG:∀i,G i→F i∨a.size ≤i):Gr F a c:=
  ⟨Nat.le_trans k.1 g.1,fun i hi hn=>(g.2 i (Nat.lt_of_lt_of_le hi k.1) (fun hg=>by rcases hG i hg with h|h;exact hn h;omega)).trans (k.2 i hi hn)⟩
theorem Gr.bX{F:Nat→Prop}{a b c:Heap}{o:Option Nat}(k:Gr F a b)(g:Grew o b c)(ho:∀i,o=some i→F i∨a.size ≤i):Gr F a c:=
  ⟨Nat.le_trans k.1 g.1,fun i hi hn=>(g.2 i (Nat.lt_of_lt_of_le hi k.1) (fun e=>by rcases ho i e.symm with h|h;exact hn h;omega)).trans (k.2 i hi hn)⟩
theorem Gr.start(F:Nat→Prop)(h:Heap):Gr F h h:=⟨Nat.le_refl _,fun _ _ _=>rfl⟩
theorem Mod.k1{h:Heap}{b p:Nat}{M:Md}(m:Mod h b p M):0<b∧0<p:=by obtain⟨_,_,_,_,_,m⟩:=m;exact⟨m.kb,m.kp⟩
theorem Mod.Ak{h:Heap}{b p j:Nat}{M:Md}{cs:Array Value}{E:TypeId}{fr:Nat×Nat}(m:Mod h b p M)(hj:h[j]? =some (.cells cs E fr))(hE:E≠83):j≠b∧j≠p:=by
  obtain⟨_,_,_,_,_,m⟩:=m
  refine⟨?_, ?_⟩
  · rintro rfl;rw[m.hm] at hj;cases hj;exact hE rfl
  · rintro rfl;rw[m.hp] at hj;cases hj
def mc(f:Md→Md×Int)(Ms:List Md)(k:Nat):Int:=if k=0 then 0 else hdF f Ms
theorem jw{f:Md→Md×Int}{Ms:List Md}{k:Nat}{M:Md}(hk:k=0)(hM:Ms[k]? =some M):mc f Ms (k+1)=(f M).2 :=by
  subst hk
  cases Ms with
  |nil=>simp at hM
  |cons N L=>simp at hM;subst hM;rfl
theorem jx(f:Md→Md×Int)(Ms:List Md){k:Nat}(hk:k≠0):mc f Ms (k+1)=mc f Ms k:=by
  obtain⟨j,rfl⟩:∃j,k=j+1:=⟨k - 1,by omega⟩
  rfl
theorem sW{f:Md→Md×Int}{Ms:List Md}{k:Nat}(hk:k=Ms.length):mc f Ms k=hdF f Ms:=by
  subst hk;cases Ms<;>rfl
theorem jy{α:Type}(f:α→α)(l:List α){k:Nat}(hk:k=l.length):(l.take k).map f++l.drop k=l.map f:=by subst hk;simp
theorem sX{J:Jd}{f:Md→Md×Int}(h:(J.c.map f).filter (fun y=>decide (y.2 =0))=[]):bx J f=({J with c:=J.c.map fun M=>(f M).1 },hdF f J.c):=by unfold bx;rw[if_pos h]
theorem lG{J:Jd}{f:Md→Md×Int}(h:(J.c.map f).filter (fun y=>decide (y.2 =0))≠[]):bx J f=({J with c:=((J.c.map f).filter fun y=>decide (y.2 =0)).map fun y=>y.1 },0):=by unfold bx;rw[if_neg h]
end Go.aN
namespace Go.Proofs.YtegkejcglfgpmaaGreatDoor
open Go Go.aj Go.aN
theorem pD{M:Md}{K K':List Rec}(E:dA M K)(F:dA M K'):K.length =K'.length :=by
  have hp:(K.map fun r=>r.b.id).Perm (K'.map fun r=>r.b.id):=(List.perm_ext_iff_of_nodup E.nd F.nd).2 fun s=>by
    simp only[List.mem_map]
    constructor
    · rintro⟨r,hr,rfl⟩;obtain⟨o,h1,_⟩:=E.at_ r hr;obtain⟨r',k1,k2⟩:=F.al _ o h1;exact⟨r',k1,k2⟩
    · rintro⟨r,hr,rfl⟩;obtain⟨o,h1,_⟩:=F.at_ r hr;obtain⟨r',k1,k2⟩:=E.al _ o h1;exact⟨r',k1,k2⟩
  simpa using hp.length_eq
theorem Al{h:Heap}{b p:Nat}{M:Md}(m:Mod h b p M):(iJ M).length ≤M.E.length ∧(eE M).length ≤M.E.length :=by
  obtain⟨L,ck,ea,ec,es,md⟩:=m
  obtain⟨g,hg⟩:=md.choose
  have hen:=md.enum hg (List.Perm.refl L)
  have hK:(L.map (aL g)).length =M.E.length :=by rw[List.length_map,md.ln]
  constructor
  · rw[kL hen];unfold fQ;rw[List.length_mergeSort, ←hK];exact gY _
  · unfold eE
    split
    · rename_i hh
      obtain⟨K,S,E',h',s',e⟩:=Classical.choose_spec hh
      rw[e, ←hK,pD hen E']
      unfold ids;rw[List.length_map,h'.length_eq];exact List.length_filter_le _ _
    · simp
theorem jA{h:Heap}{b p:Nat}{M:Md}(m:Mod h b p M)(kd n:Int)(s:ByteArray)(l:List UInt8):(step M kd n s l).2.i.length ≤M.E.length ∧(step M kd n s l).2.p.length ≤M.E.length :=by
  have hb:=Al m
  have z0:(0:Nat)≤M.E.length :=Nat.zero_le _
  unfold step
  split
  · exact⟨z0,z0⟩
  split
  · exact⟨z0,z0⟩
  split
  · show (c7 M kd s).i.length ≤ _ ∧ (c7 M kd s).p.length ≤ _
    unfold c7
    split
    · exact⟨z0,z0⟩
    split
    · exact⟨z0,z0⟩
    split
    · exact⟨z0,z0⟩
    split
    · refine ⟨z0, ?_⟩
      have:=mG (cE M.E) (by assumption:Ob).b.idx
      exact Nat.le_trans this (by unfold cE;rw[List.length_map];exact Nat.le_refl _)
    split
    · exact⟨z0,z0⟩
    split<;>exact⟨z0,z0⟩
  split
  · exact⟨hb.1,z0⟩
  split
  · exact⟨hb.2,z0⟩
  split
  · exact⟨z0,z0⟩
  split
  · exact⟨z0,z0⟩
  split<;>exact⟨z0,z0⟩
theorem n9(M:Md)(kd n:Int)(s:ByteArray)(l:List UInt8):(step M kd n s l).1.E.length ≤M.E.length +1:=by
  have h1:(db M s l).1.E.length ≤M.E.length +1:=by
    unfold db
    split
    · exact Nat.le_succ _
    split
    · exact Nat.le_succ _
    split
    · exact Nat.le_succ _
    · simp
  have h2:(ff M kd n s).1.E.length ≤M.E.length +1:=by
    unfold ff
    split
    · exact Nat.le_succ _
    split
    · exact Nat.le_succ _
    split
    · exact Nat.le_succ _
    split<;>exact Nat.le_succ _
  unfold step
  split
  · exact h1
  split
  · exact h2
  split
  · show M.E.length ≤_;omega
  split
  · show M.E.length ≤_;omega
  split
  · show M.E.length ≤_;omega
  split
  · show M.E.length ≤_;omega
  split
  · show M.E.length ≤_;omega
  split<;>(show M.E.length ≤_;omega)
def jB(kd:Int)(W X:An):An:=if (kd=11∧0≤X.k ∧X.k ≤6)∨(kd=15∧W.c =0∧0≤X.k ∧X.k ≤8) then {W with k:=X.k } else W
theorem jC{kd:Int}{W X:An}(h:(kd=11∧0≤X.k ∧X.k ≤6)∨(kd=15∧W.c =0∧0≤X.k ∧X.k ≤8)):jB kd W X={W with k:=X.k }:=by unfold jB;rw[if_pos h]
theorem fH{kd:Int}{W X:An}(h:¬((kd=11∧0≤X.k ∧X.k ≤6)∨(kd=15∧W.c =0∧0≤X.k ∧X.k ≤8))):jB kd W X=W:=by unfold jB;rw[if_neg h]
noncomputable def bw(kd n:Int)(s:ByteArray)(l:List UInt8)(X:An)(M:Md):Md×Int:=((step M kd n s l).1,az (jB kd (step M kd n s l).2 X) X)
noncomputable def bb(kd n:Int)(s:ByteArray)(l:List UInt8)(X:An)(M:Md):Md×Int:=(M,if (step M kd n s l).2.c =0∧az (b8 3) X=0 then 0 else az (step M kd n s l).2 X)
theorem jD{kd n:Int}{s:ByteArray}{l:List UInt8}{X:An}{M:Md}(h:(step M kd n s l).2.c =0)(k:az (b8 3) X=0):bb kd n s l X M=(M,0):=by unfold bb;rw[if_pos ⟨h,k⟩]
theorem ib{kd n:Int}{s:ByteArray}{l:List UInt8}{X:An}{M:Md}(h:¬((step M kd n s l).2.c =0∧az (b8 3) X=0)):bb kd n s l X M=(M,az (step M kd n s l).2 X):=by unfold bb;rw[if_neg h]
end Go.Proofs.YtegkejcglfgpmaaGreatDoor
namespace Go.aN
open Go Go.aj
theorem CA.FA{h:Heap}{bs:List (Nat×Nat)}{Ms:List Md}{j:Nat}{cs:Array Value}{E:TypeId}{fr:Nat×Nat}(c:CA h bs Ms)(hj:h[j]? =some (.cells cs E fr))(hE:E≠83):∀x∈bs,j≠x.1 ∧j≠x.2 :=fun x hx=>by
  obtain⟨i,hi⟩:=List.getElem?_of_mem hx
  have hl:=(List.getElem?_eq_some_iff.1 hi).1
  rw[c.len] at hl
  exact(c.at_ i x _ hi (List.getElem?_eq_getElem hl)).Ak hj hE
theorem CA.n_{h:Heap}{bs:List (Nat×Nat)}{Ms:List Md}{j:Nat}{cs:Array Value}{E:TypeId}{fr:Nat×Nat}(c:CA h bs Ms)(hj:h[j]? =some (.cells cs E fr))(hE:kK E=false)(hP:E≠55):∀k,JF j bs k→aZ h k∧Aj h k:=fun k hk=>by
  rcases hk with rfl|⟨x,hx,e⟩
  · exact⟨aZ.cells hj hE,fun cs fr e=>by rw[hj] at e;cases e;exact hP rfl⟩
  · obtain ⟨i, hi⟩ := List.getElem?_of_mem hx
    have hl:=(List.getElem?_eq_some_iff.1 hi).1
    rw[c.len] at hl
    obtain⟨_,_,_,_,_,m⟩:=c.at_ i x _ hi (List.getElem?_eq_getElem hl)
    rcases e with rfl|rfl
    · exact⟨aZ.cells m.hm (by decide),fun cs fr e=>by rw[m.hm] at e;cases e⟩
    · exact⟨aZ.map m.hp,fun cs fr e=>by rw[m.hp] at e;cases e⟩
theorem CA.pE{h h':Heap}{bs:List (Nat×Nat)}{Ms:List Md}{o:Option Nat}{v:Value}{E:TypeId}{n sz:Nat}{xs:List Value}(c:CA h bs Ms)(g:Grew o h h')(w:Own h v E n sz xs)(ho:a6 v=o)(hE:kK E=false)(hM:E≠83):CA h' bs Ms:=by
  subst ho
  rcases w.2 with⟨rfl,_⟩|⟨k,off,cap,l,rfl,m,_⟩
  · exact c.ext g
  · refine c.fr (F := fun i => i = k) ⟨g.1, fun i hi hn => g.2 i hi (fun e => hn (Option.some.inj e))⟩ (by rintro i rfl; exact aZ.cells m hE) fun x hx => ?_
    have:=c.FA m hM x hx
    exact⟨fun e=>this.1 e.symm,fun e=>this.2 e.symm⟩
end Go.aN
namespace Go.aN
open Go Go.aj
theorem Mod.eX{h h':Heap}{b p:Nat}{M:Md}{o:Option Nat}{v:Value}{E:TypeId}{n sz:Nat}{xs:List Value}(m:Mod h b p M)(g:Grew o h h')(w:Own h v E n sz xs)(ho:a6 v=o)(hE:kK E=false)(hM:E≠83):Mod h' b p M:=by
  subst ho
  rcases w.2 with⟨rfl,_⟩|⟨k,off,cap,l,rfl,q,_⟩
  · exact m.ext g
  · have := m.Ak q hM
    exact m.fr (F:=fun i=>i=k) ⟨g.1,fun i hi hn=>g.2 i hi (fun e=>hn (Option.some.inj e))⟩ (by rintro i rfl;exact aZ.cells q hE) (fun e=>this.1 e.symm) (fun e=>this.2 e.symm)
theorem CA.one{h:Heap}{x:Nat×Nat}{M:Md}(m:Mod h x.1 x.2 M):CA h [x] [M]:=by
  refine⟨rfl,fun i z K e1 e2=> ?_,by simp,by simp⟩
  match i,e1,e2 with
  |0,e1,e2=>cases e1;cases e2;exact m
  |_+1,e1,_=>simp at e1
theorem Mod.Am{h:Heap}{b p:Nat}{M:Md}{ad:Option Addr}{n cap:Nat}{E:TypeId}{m sz:Nat}{xs:List Value}(m':Mod h b p M)(w:Own h (.slice ad n cap) E m sz xs)(hM:E≠83):∀k,ad.map (fun(x:Addr)=>x.block)=some k→¬(k=b∨k=p):=fun k e=>by
  rcases w.2 with⟨e2,_⟩|⟨g,off,cap',l,e2,q,_⟩
  · cases e2;cases e
  · cases e2
    simp only[Option.map_some,Option.some.injEq] at e
    subst e
    have:=m'.Ak q hM
    rintro(e|e)
    · exact this.1 e
    · exact this.2 e
end Go.aN
namespace Go.aN
open Go Go.aj
theorem JA.ext{h h':Heap}{jb:Nat}{bs:List (Nat×Nat)}{J:Jd}{ca:Option Addr}{cc:Nat}(a:JA h jb bs J ca cc)(g:Ext h h'):JA h' jb bs J ca cc:=⟨g.blk a.hj,a.row.ext g,a.cs.ext g⟩
theorem JA.lt{h:Heap}{jb:Nat}{bs:List (Nat×Nat)}{J:Jd}{ca:Option Addr}{cc:Nat}(a:JA h jb bs J ca cc):jb<h.size ∧∀x∈bs,x.1 <h.size ∧x.2 <h.size :=by
  refine⟨ak a.hj,fun x hx=> ?_⟩
  obtain⟨i,hi⟩:=List.getElem?_of_mem hx
  have hl:=(List.getElem?_eq_some_iff.1 hi).1
  rw[a.cs.len] at hl
  exact(a.cs.at_ i x _ hi (List.getElem?_eq_getElem hl)).kb
theorem JA.turn{h h':Heap}{jb:Nat}{bs:List (Nat×Nat)}{J J':Jd}{ca:Option Addr}{cc:Nat}(a:JA h jb bs J ca cc)(g:Gr (fun k=>k=jb) h h')(hj:h'[jb]? =some (.cells #[.slice ca bs.length cc, .bool J'.off, .bool J'.aD, .bool J'.qj, .bool J'.gave] 77))(hc:J'.c =J.c):JA h' jb bs J' ca cc:=by
  refine⟨hj,a.row.fr g (fun i e cs fr e2=>by rw[e,a.hj] at e2;cases e2), ?_⟩
  rw[hc]
  exact a.cs.fr g (by rintro i rfl;exact aZ.cells a.hj (by decide)) fun x hx=>by
    have:=a.cs.FA a.hj (by decide) x hx
    exact⟨fun e=>this.1 e.symm,fun e=>this.2 e.symm⟩
theorem aC.jf{h h':Heap}{jb:Nat}{v:Value}{n sz:Nat}{xs:List Value}{cs:Array Value}{E:TypeId}{fr:Nat×Nat}(r:aC h v n sz xs)(g:Gr (fun k=>k=jb) h h')(hj:h[jb]? =some (.cells cs E fr))(hE:kK E=false):aC h' v n sz xs:=r.fr g (by rintro i rfl;exact aZ.cells hj hE)
theorem Gr.uz{h h':Heap}{jb:Nat}(bs:List (Nat×Nat))(g:Gr (fun k=>k=jb) h h'):Gr (JF jb bs) h h':=⟨g.1,fun k hk hn=>g.2 k hk (fun e=>hn (.inl e))⟩
end Go.aN
namespace Go.aN
open Go Go.aj
def fS(F:Nat→Prop)(h:Heap)(v:Value)(n sz:Nat)(xs:List Value):Prop:=Row h v n sz xs∧(n=0∨∀k,a6 v=some k→k<h.size ∧¬F k)
section
variable {F:Nat→Prop} {h h':Heap} {v:Value} {n sz:Nat} {xs:List Value}
theorem fS.gr(r:fS F h v n sz xs)(g:Gr F h h'):Row h' v n sz xs:=by
  rcases r.2 with h0|hk
  · exact r.1.zero h0
  refine⟨r.1.1,r.1.2.imp id ?_⟩
  rintro⟨a,cap,rfl,hc,hx⟩
  obtain⟨h1,h2⟩:=hk a.block rfl
  exact⟨a,cap,rfl,hc,fun j u hu=>by rw[dz (h:=h) (h':=h') (p:=a.add j) (by rw[add_block,g.2 _ h1 h2])];exact hx j u hu⟩
theorem fS.ext(r:fS F h v n sz xs)(g:Ext h h'):fS F h' v n sz xs:=⟨r.1.ext g,r.2.imp id fun q k e=>⟨Nat.lt_of_lt_of_le (q k e).1 g.1,(q k e).2⟩⟩
theorem fS.jf{jb:Nat}{bs:List (Nat×Nat)}(r:fS (JF jb bs) h v n sz xs)(g:Gr (fun k=>k=jb) h h'):fS (JF jb bs) h' v n sz xs:=⟨r.gr (g.uz bs),r.2.imp id fun q k e=>⟨Nat.lt_of_lt_of_le (q k e).1 g.1,(q k e).2⟩⟩
end
end Go.aN
end
section
namespace Go.Proofs.YtegkejcglfgpmaaGreatDoor
open Go Go.aj Go.aN
open Classical in
/-- what a change of one object comes to -/
noncomputable def MW(x:Option Ob)(kd n t:Int)(s:ByteArray):Option Ob×Int:=
  if aM s=false then (none,210) else if kd=4∧(n<0∨1099511627776<n) then (none,1) else match x with
    |none=>(none,211)
    |some o=>if (et o kd n t).2 =0 then (some (et o kd n t).1,0) else (none,(et o kd n t).2)
noncomputable def MX(M:Md)(s:ByteArray):Option Ob→Md
  |none=>M
  |some o=>⟨upd M.f s o,M.E,M.t⟩
/-! ### many operations, one after the other -/
structure e9 where
  kd:Int
  s:ByteArray
  l:List UInt8
  oa:Option Addr
  oc:Nat
  n:Int
  ka:Option Addr
  kn:Nat
  kc:Nat
@[reducible] def FB(o:e9):List Value:=[.int .i64 o.kd, .string o.s, .slice o.oa o.l.length o.oc, .int .i64 o.n, .slice o.ka o.kn o.kc]
def fC:e9:=⟨0,ByteArray.empty,[],none,0,0,none,0,0⟩
@[reducible] def iA(L:List e9):List Value:=L.flatMap FB
theorem om(o:e9):(FB o).length =5:=rfl
def uA(h:Heap)(o:e9):Prop:=Row h (.slice o.oa o.l.length o.oc) o.l.length 1 (o.l.map bv)∧o.s.size ≤9223372036854775807
theorem uA.ext{h h':Heap}{o:e9}(a:uA h o)(g:Ext h h'):uA h' o:=⟨a.1.ext g,a.2⟩
noncomputable def bO(M:Md)(o:e9):Md×An:=step M o.kd o.n o.s o.l
noncomputable def run(L:List e9):Md→Md:=fun M=>L.foldl (fun M o=>(bO M o).1) M
def M0:Md:=⟨fun _=>none,[],0⟩
theorem sY{L:List e9}{i:Nat}{P:e9→Prop}(h:∀o∈L,P o)(hi:i<L.length):P (L.getD i fC):=by
  rw[List.getD_eq_getElem?_getD,List.getElem?_eq_getElem hi];exact h _ (List.getElem_mem hi)
end Go.Proofs.YtegkejcglfgpmaaGreatDoor
end
section
namespace Go.Proofs.YtegkejcglfgpmaaGreatDoor
open Go.ChangeShapes Go.WideShapes Go.ChangeAt Go.RowKit
section
variable {H:Type} {enc:TypeId×Value→H}
def HA(h:aj.Heap)(va:Option Addr)(vc:Nat)(L:List aN.Hs):Prop:=aN.HR h va vc L.length L∧∀k,va.map (fun(x:Addr)=>x.block)=some k→k<h.size
end
end Go.Proofs.YtegkejcglfgpmaaGreatDoor
namespace Go.Proofs.YtegkejcglfgpmaaGreatDoor
open Go.ChangeShapes Go.WideShapes Go.ChangeAt Go.RowKit
section
variable {H:Type} {enc:TypeId×Value→H}
def fieldsOf(P:Program)(t:TypeId):Option (List (TypeId×Nat)):=
  match P.underlying t with
  |some (.struct fs)=>some (fs.toList.map fun f=>(f.type,f.offset))
  |_=>none
theorem kl{P:Program}{W:World}{t:TypeId}{fuel:Nat}{cs:List Value}{x:DataW H×List MemPlace}{l:List (TypeId×Nat)}(hf:fieldsOf P t=some l)(h:DataW.trod enc P W 0 (fun _=>true) true fuel t cs=some x):
    ∃(xs:List (DataW H×List MemPlace)) (n:Nat),cs.length =P.cellsOf t∧x.1 = .agg (xs.map (·.1))∧∀(i:Nat) (p:TypeId×Nat),l[i]? =some p→∃y,xs[i]? =some y∧DataW.trod enc P W 0 (fun _=>true) true n p.1 ((cs.drop p.2).take (P.cellsOf p.1))=some y:=by
  unfold fieldsOf at hf
  cases hu:P.underlying t with
  |none=>simp[hu] at hf
  | some d =>
    cases d<;>simp only[hu] at hf<;>first| (cases hf;done)|skip
    rename_i fs
    simp only[Option.some.injEq] at hf
    obtain⟨xs,n,rfl,rfl,hl,hxl,hel⟩:=DataW.trod_struct hu h
    refine⟨xs,n,hl,rfl,fun i p hp=> ?_⟩
    rw[←hf,List.getElem?_map,Option.map_eq_some_iff] at hp
    obtain⟨f,h1,rfl⟩:=hp
    have h2:=hel i f (by simpa using h1)
    have hi:i<xs.length :=by
      rw[hxl]
      apply Nat.lt_of_not_le;intro hh
      rw[List.getElem?_eq_none (by simpa using hh)] at h1;cases h1
    rw[List.getElem?_eq_getElem hi] at h2⊢
    exact⟨_,rfl,h2⟩
theorem cut(l:List Value)(a b:Nat):l.drop a=(l.drop a).take b++l.drop (a+b):=by
  rw[←List.drop_drop,List.take_append_drop]
theorem wS{l:List (DataW H×List MemPlace)}{i:Nat}{y:DataW H×List MemPlace}(h:l[i]? =some y):Rows.uptoBulk y.1 ≤Rows.uptoBulk (DataW.agg (l.map (·.1))):=by
  have:Rows.uptoBulk y.1 ≤Rows.uptoBulkAll (l.map (·.1)):=by
    induction l generalizing i with
    |nil=>simp at h
    | cons x l ih =>
      simp only[List.map_cons,Rows.uptoBulkAll]
      cases i with
      |zero=>simp only[List.getElem?_cons_zero,Option.some.injEq] at h;subst h;omega
      |succ i=>have:=ih (i:=i) (by simpa using h);omega
  simp only[Rows.uptoBulk];omega
theorem gC{n:Int}(hw:(Lit.int .i64 n).wf =true): -9223372036854775808≤n∧n≤9223372036854775807:=by
  simp only[Lit.wf,Bool.and_eq_true,decide_eq_true_eq] at hw
  simpa[IntKind.min,IntKind.max,IntKind.signed,IntKind.bits] using hw
end
end Go.Proofs.YtegkejcglfgpmaaGreatDoor
namespace Go.Proofs.YtegkejcglfgpmaaGreatDoor
open Go.ChangeShapes Go.WideShapes Go.ChangeAt Go.RowKit
section
variable {H:Type} {enc:TypeId×Value→H}
theorem lH{α:Type}{f:α→List Value}{k:Nat}(d0:α)(hfl:∀x,(f x).length =k){P:Program}{W:World}{t q:TypeId}{fuel:Nat}{cs:List Value}{x:DataW H×List MemPlace}(ht:P.underlying t=some (.slice q))(hc:P.cellsOf q=k)(hk:0<k)(Q:α→DataW H→Prop)
    (hq:∀(n:Nat) (cs':List Value) (y:DataW H×List MemPlace),DataW.trod enc P W 0 (fun _=>true) true n q cs'=some y→∃z,cs'=f z∧Q z y.1)
    (h:DataW.trod enc P W 0 (fun _=>true) true fuel t cs=some x):∃va vc,∃L:List α,cs=[.slice va L.length vc]∧aj.Row W.heap (.slice va L.length vc) L.length k (L.flatMap f)∧L.length +1≤Rows.uptoBulk x.1 ∧
      ∃ds:List (DataW H),ds.length =L.length ∧Rows.uptoBulkAll ds≤Rows.uptoBulk x.1 ∧∀i,i<L.length →∃dd,ds[i]? =some dd∧Q (L.getD i d0) dd:=by
  rcases Deep.open_slice ht h with⟨rfl,rfl⟩|⟨a,len,cap,m,n,D,Pl,rfl,_,hle,_,hm,rfl,hel⟩
  · exact⟨none,0,[],rfl,⟨by simp, .inl ⟨rfl,rfl⟩⟩,by simp[Rows.uptoBulk],[],rfl,by simp[Rows.uptoBulkAll],fun i hi=>by simp at hi⟩
  · have hm' : m = cap := hm
    have _inst:Inhabited α:=⟨d0⟩
    obtain⟨g,hG⟩:=Deep.choose_lt (n:=len) (p:=fun i (y:α)=>Q y (D i)∧∀j u,(f y)[j]? =some u→aj.hcell W.heap (a.add (i*k+j))=some u) (fun i hi=>by
      obtain⟨cs',h1,h2⟩:=hel i (by omega)
      obtain⟨y,rfl,hy⟩:=hq _ _ _ h2
      rw[hc] at h1
      refine⟨y,hy,fun j u hu=> ?_⟩
      have hj:j<k:=by
        apply Nat.lt_of_not_le;intro hh
        rw[List.getElem?_eq_none (by rw[hfl];exact hh)] at hu;cases hu
      have h3:=(World.cells?_some h1).2.2 j hj
      rw[hu,aj.dZ rfl,aj.add_add] at h3
      exact h3)
    have hl:((List.range len).map g).length =len:=by simp
    refine⟨some a,cap,(List.range len).map g,by rw[hl],⟨aN.eG hfl _, .inr ⟨a,cap,rfl,by rw[hl];exact hle,fun j u hu=> ?_⟩⟩, ?_,(List.range len).map D,by simp, ?_,fun i hi=> ?_⟩
    · have hj : j < len * k := by
        apply Nat.lt_of_not_le;intro hh
        rw[List.getElem?_eq_none (by rw[aN.eG hfl,hl];omega)] at hu;cases hu
      have hi:j/k<len:=(Nat.div_lt_iff_lt_mul hk).2 hj
      have hjk:j/k*k+j%k=j:=by rw[Nat.mul_comm];exact Nat.div_add_mod j k
      have hd:(((List.range len).map g).drop (j/k)).flatMap f=f (g (j/k))++(((List.range len).map g).drop (j/k+1)).flatMap f:=by
        rw[List.drop_eq_getElem_cons (by rw[hl];exact hi),List.flatMap_cons];simp
      have hu2:(f (g (j/k)))[j%k]? =some u:=by
        have h4:((((List.range len).map g).drop (j/k)).flatMap f)[j%k]? =some u:=by
          rw[←aN.je hfl,List.getElem?_drop,hjk];exact hu
        rw[hd,List.getElem?_append_left (by rw[hfl];exact Nat.mod_lt _ hk)] at h4
        exact h4
      have:=(hG _ hi).2 _ _ hu2
      rw[hjk] at this
      exact this
    · rw [hl]
      have:=sq.oS ((List.range len).map D) ((List.range (m - len)).map fun j=>D (len+j))
      rw[List.length_map,List.length_range] at this
      refine Nat.le_trans ?_ this
      omega
    · simp only[Rows.uptoBulk];omega
    · rw [hl] at hi
      exact⟨D i,by simp[hi],by simpa[List.getD,hi] using(hG i hi).1⟩
theorem uB{ds:List (DataW H)}{i:Nat}{y:DataW H}(h:ds[i]? =some y):Rows.uptoBulk y≤Rows.uptoBulkAll ds:=by
  induction ds generalizing i with
  |nil=>simp at h
  | cons x l ih =>
    simp only[Rows.uptoBulkAll]
    cases i with
    |zero=>simp only[List.getElem?_cons_zero,Option.some.injEq] at h;subst h;omega
    |succ i=>have:=ih (i:=i) (by simpa using h);omega
def C8(P:Program)(t ti ts tb te tk:TypeId):Prop:=fieldsOf P t=some [(ti,0),(ts,1),(tb,2),(ti,3),(tk,4)]∧P.cellsOf t=5∧P.underlying ti=some (.int .i64)∧P.cellsOf ti=1∧P.underlying ts=some .string ∧P.cellsOf ts=1∧P.underlying tb=some (.slice te)∧P.cellsOf tb=1∧P.underlying te=some (.int .u8)∧P.cellsOf te=1∧P.underlying tk=some (.slice ti)∧P.cellsOf tk=1
theorem wT{P:Program}{W:World}{t ti ts tb te tk:TypeId}{fuel:Nat}{cs:List Value}{x:DataW H×List MemPlace}(hO:C8 P t ti ts tb te tk)(h:DataW.trod enc P W 0 (fun _=>true) true fuel t cs=some x):
    ∃o:e9,cs=FB o∧uA W.heap o∧o.l.length +1≤Rows.uptoBulk x.1 ∧ -9223372036854775808≤o.kd ∧o.kd ≤9223372036854775807∧(o.l.length =0∨∀k,aj.a6 (.slice o.oa o.l.length o.oc)=some k→k<W.heap.size):=by
  obtain⟨hf,hct,hi,hci,hs,hcs,hb,hcb,he,hce,hk,hck⟩:=hO
  obtain⟨xs,n0,hl,hd,hel⟩:=kl hf h
  obtain⟨y0,_,h0⟩:=hel 0 _ rfl
  obtain⟨y1,_,h1⟩:=hel 1 _ rfl
  obtain⟨y2,g2,h2⟩:=hel 2 _ rfl
  obtain⟨y3,_,h3⟩:=hel 3 _ rfl
  obtain⟨y4,_,h4⟩:=hel 4 _ rfl
  obtain⟨kd,e0,_,hkd⟩:=DataW.trod_int hi h0
  obtain⟨s,e1,_,hsz⟩:=DataW.trod_string hs h1
  obtain⟨⟨oa,oc,l⟩,e2,hr,hbl⟩:=open_bytes hb he hce h2
  obtain⟨n,e3,_,_⟩:=DataW.trod_int hi h3
  obtain⟨ka,kn,kc,e4⟩:∃ka kn kc,(cs.drop 4).take (P.cellsOf tk)=[.slice ka kn kc]:=by
    rcases open_ints hk hi hci h4 with⟨e,_⟩|⟨a,len,cap,zs,e,_⟩
    · exact⟨_,_,_,e⟩
    · exact⟨_,_,_,e⟩
  refine⟨⟨kd,s,l,oa,oc,n,ka,kn,kc⟩, ?_,⟨hr.1, ?_⟩, ?_,(gC hkd).1,(gC hkd).2,hr.2.imp (fun e=>congrArg List.length e) id⟩
  · rw [hct] at hl
    rw[hci] at e0 e3
    rw[hcs] at e1
    rw[hcb] at e2
    rw[hck] at e4
    dsimp only at e0 e1 e2 e3 e4
    have c0:=cut cs 0 1
    have c1:=cut cs 1 1
    have c2:=cut cs 2 1
    have c3:=cut cs 3 1
    have c4:=cut cs 4 1
    rw[List.drop_of_length_le (l:=cs) (i:=4+1) (by omega),List.append_nil,e4] at c4
    rw[e3,c4] at c3
    rw[e2,c3] at c2
    rw[e1,c2] at c1
    rw[e0,c1,List.drop_zero] at c0
    rw[c0];rfl
  · have := hsz
    show s.size ≤_
    first|exact Nat.le_trans this (by decide)| (simp only[maxLen] at this;omega)
  · have := wS g2
    rw[hd]
    simp only at this hbl⊢
    omega
end
end Go.Proofs.YtegkejcglfgpmaaGreatDoor
end
section
namespace Go.aN
open Go Go.aj
/-! ### the document's model, as the memory holds it -/
/-- a row that lies in a block of this type -/
def jE(E:TypeId)(h:Heap)(v:Value)(n sz:Nat)(xs:List Value):Prop:=Row h v n sz xs∧(n=0∨∃k cs fr,a6 v=some k∧h[k]? =some (.cells cs E fr))
def oo(E:TypeId)(h:Heap)(k:Nat):Prop:=∀cs fr,h[k]? ≠some (.cells cs E fr)
section
variable {E:TypeId} {h h':Heap} {v:Value} {n sz:Nat} {xs:List Value} {F:Nat→Prop}
theorem jE.fr(r:jE E h v n sz xs)(g:Gr F h h')(hF:∀k,F k→oo E h k):jE E h' v n sz xs:=by
  rcases r.2 with h0|⟨k,ds,fr',e,m⟩
  · exact⟨r.1.zero h0, .inl h0⟩
  · have nk : ¬ F k := fun hk => hF k hk _ _ m
    have m':h'[k]? =some (.cells ds E fr'):=by rw[g.2 k (ak m) nk];exact m
    refine⟨⟨r.1.1,r.1.2.imp id ?_⟩, .inr ⟨k,ds,fr',e,m'⟩⟩
    rintro⟨a,cap,rfl,hc,hx⟩
    simp only[a6,Option.some.injEq] at e
    subst e
    refine⟨a,cap,rfl,hc,fun j u hu=> ?_⟩
    rw[dz (h:=h) (h':=h') (p:=a.add j) (by rw[add_block,m',m])]
    exact hx j u hu
theorem jE.of(o:Own h v E n sz xs):jE E h v n sz xs:=by
  refine⟨o.row, ?_⟩
  rcases o.2 with⟨rfl,h0⟩|⟨g,off,cap,l,rfl,m,_⟩
  · exact .inl h0
  · exact .inr ⟨g,l,(0,0),rfl,m⟩
theorem jE.nil(E:TypeId)(h:Heap)(sz:Nat):jE E h (.slice none 0 0) 0 sz []:=⟨Row.nil h sz, .inl rfl⟩
theorem oo.cells{k:Nat}{cs:Array Value}{E2:TypeId}{fr:Nat×Nat}(m:h[k]? =some (.cells cs E2 fr))(hE:E2≠E):oo E h k:=fun cs' fr' e=>by rw[m] at e;cases e;exact hE rfl
end
structure RO where
  o:Ob
  ca:Option Addr
  cc:Nat
  ba:Option Addr
  bc:Nat
@[reducible] def q7(x:RO):List Value:=c8 x.o.b x.o.e x.o.ho x.o.go (.slice x.ca 0 x.cc) (.slice x.ba x.o.dt.length x.bc)
def I8:RO:=⟨⟨dn,0,false,false,[]⟩,none,0,none,0⟩
@[reducible] def bz(T:List RO):List Value:=T.flatMap q7
theorem jF(x:RO):(q7 x).length =40:=rfl
theorem j5(T:List RO):(bz T).length =T.length *40:=eG jF T
theorem dR(T:List RO):∀u∈bz T,u.oneCell' =true:=jh (fun p u hu=>by
  rcases List.mem_append.1 hu with h|h
  · exact dG ⟨p.o.b,p.o.e,p.o.ho,p.o.go,p.ca,0,p.cc⟩ u h
  · rw[List.mem_singleton.1 h];rfl) T
/-! ### strings in order -/
def fI(s t:ByteArray):Prop:=Lib.compareBytes s.data.toList t.data.toList <0
theorem ba_eq{s t:ByteArray}(h:s.data.toList =t.data.toList):s=t:=by
  cases s;cases t
  simp only[ByteArray.mk.injEq]
  rename_i a b
  rw[←Array.toArray_toList (xs:=a), ←Array.toArray_toList (xs:=b)]
  exact congrArg List.toArray h
theorem sZ(s t:ByteArray):fI s t∨s=t∨fI t s:=by
  unfold fI
  rcases Int.lt_trichotomy (Lib.compareBytes s.data.toList t.data.toList) 0 with h|h|h
  · exact .inl h
  · exact .inr (.inl (ba_eq (pb h)))
  · have:=dH s.data.toList t.data.toList;exact .inr (.inr (by omega))
theorem fJ{s t:ByteArray}(h:fI s t):s≠t:=by rintro rfl;unfold fI at h;rw[sF] at h;omega
theorem pF{s t:ByteArray}(h:fI s t):¬fI t s:=by unfold fI at*;have:=dH s.data.toList t.data.toList;omega
theorem uC{s t u:ByteArray}(h:fI s t)(k:fI t u):fI s u:=by
  rcases sZ s u with e|e|e
  · exact e
  · subst e;exact absurd k (pF h)
  · have h1 := gl u.data.toList s.data.toList t.data.toList (Int.le_of_lt e) (Int.le_of_lt h)
    have h2:=dH t.data.toList u.data.toList
    unfold fI at k;omega
theorem nj(s:ByteArray):∀{T:List RO},(T.Pairwise fun x y=>fI x.o.b.id y.o.b.id)→(∃A B,T=A++B∧(∀x∈A,fI x.o.b.id s)∧∀x∈B,fI s x.o.b.id)∨∃A x B,T=A++x::B∧(∀y∈A,fI y.o.b.id s)∧x.o.b.id =s
  |[],_=> .inl ⟨[],[],rfl,by simp,by simp⟩
  | x :: T, h => by
    obtain⟨h1,h2⟩:=List.pairwise_cons.1 h
    rcases sZ x.o.b.id s with e|e|e
    · rcases nj s h2 with ⟨A, B, rfl, k1, k2⟩ | ⟨A, y, B, rfl, k1, k2⟩
      · exact .inl ⟨x::A,B,rfl,fun z hz=>(List.mem_cons.1 hz).elim (fun q=>q▸e) (k1 z),k2⟩
      · exact .inr ⟨x::A,y,B,rfl,fun z hz=>(List.mem_cons.1 hz).elim (fun q=>q▸e) (k1 z),k2⟩
    · exact .inr ⟨[],x,T,rfl,by simp,e⟩
    · exact .inl ⟨[],x::T,rfl,by simp,fun z hz=>(List.mem_cons.1 hz).elim (fun q=>q▸e) (fun q=>uC e (h1 z q))⟩
/-! ### the model -/
structure bD(W:Nat→Prop)(h:Heap)(rb:Nat)(M:Md)(T:List RO)(oa:Option Addr)(oc:Nat)(ea:Option Addr)(ec:Nat)(es:List Value):Prop where
  hm:h[rb]? =some (.cells #[.slice oa T.length oc, .slice ea M.E.length ec, .int .i64 M.t] 86)
  row:jE 97 h (.slice oa T.length oc) T.length 40 (bz T)
  fQ:T.Pairwise fun x y=>fI x.o.b.id y.o.b.id
  ob:∀x∈T,M.f x.o.b.id =some x.o ∧x.o.dt.length ≤512∧Row h (.slice x.ca 0 x.cc) 0 4 (da [])∧cr W h (.slice x.ba x.o.dt.length x.bc) x.o.dt.length 1 (x.o.dt.map bv)
  al:∀s o,M.f s=some o→∃x∈T,x.o.b.id =s
  er:cr W h (.slice ea M.E.length ec) M.E.length 1 es
  en:ep W h es M.E
  ln:T.length =M.E.length
  t0:0≤M.t
  t1:M.t ≤1099511627776
  kb:0<rb
  ix:∀s o,M.f s=some o→0≤o.b.idx ∧o.b.idx <M.E.length
def bB(W:Nat→Prop)(h:Heap)(rb:Nat)(M:Md):Prop:=∃T oa oc ea ec es,bD W h rb M T oa oc ea ec es
def RG(rb:Nat)(h h':Heap):Prop:=Gr (fun k=>k=rb) h h'
section
variable {W W' F:Nat→Prop} {h h':Heap} {rb:Nat} {M:Md} {T A B:List RO} {oa:Option Addr} {oc:Nat} {ea:Option Addr} {ec:Nat} {es:List Value} {s:ByteArray}
theorem bD.fr(m:bD W h rb M T oa oc ea ec es)(g:Gr F h h')(hF:∀k,F k→(aZ h k∨W k)∧oo 97 h k)(h1:¬F rb):bD W h' rb M T oa oc ea ec es:=
  ⟨by rw[g.2 rb (ak m.hm) h1];exact m.hm,m.row.fr g (fun k hk=>(hF k hk).2),m.fQ,fun x hx=>by obtain⟨k1,k2,k3,k4⟩:=m.ob x hx;exact⟨k1,k2,k3.zero rfl,k4.fr g fun k hk=>(hF k hk).1⟩,m.al,m.er.fr g fun k hk=>(hF k hk).1,m.en.fr g fun k hk=>(hF k hk).1,m.ln,m.t0,m.t1,m.kb,m.ix⟩
theorem bB.fr(m:bB W h rb M)(g:Gr F h h')(hF:∀k,F k→(aZ h k∨W k)∧oo 97 h k)(h1:¬F rb):bB W h' rb M:=by
  obtain⟨T,oa,oc,ea,ec,es,m⟩:=m;exact⟨T,oa,oc,ea,ec,es,m.fr g hF h1⟩
theorem bD.ext(m:bD W h rb M T oa oc ea ec es)(g:Ext h h'):bD W h' rb M T oa oc ea ec es:=m.fr (F:=fun _=>False) ⟨g.1,fun k hk _=>g.2 k hk (by simp)⟩ (fun _ e=>e.elim) id
theorem bB.ext(m:bB W h rb M)(g:Ext h h'):bB W h' rb M:=by obtain⟨T,oa,oc,ea,ec,es,m⟩:=m;exact⟨T,oa,oc,ea,ec,es,m.ext g⟩
theorem bB.kb(m:bB W h rb M):rb<h.size :=by obtain⟨_,_,_,_,_,_,m⟩:=m;exact ak m.hm
theorem bD.find(m:bD W h rb M T oa oc ea ec es)(s:ByteArray):(M.f s=none∧∃A B,T=A++B∧(∀x∈A,fI x.o.b.id s)∧∀x∈B,fI s x.o.b.id)∨∃A x B,T=A++x::B∧(∀y∈A,fI y.o.b.id s)∧x.o.b.id =s∧M.f s=some x.o :=by
  rcases nj s m.fQ with⟨A,B,e,k1,k2⟩|⟨A,x,B,e,k1,k2⟩
  · refine .inl ⟨?_, A, B, e, k1, k2⟩
    cases hf:M.f s with
    |none=>rfl
    | some o =>
      obtain⟨x,hx,hs⟩:=m.al s o hf
      rw[e] at hx
      rcases List.mem_append.1 hx with h|h
      · exact absurd hs (fJ (k1 x h))
      · exact absurd hs.symm (fJ (k2 x h))
  · refine .inr ⟨A, x, B, e, k1, k2, ?_⟩
    have:=(m.ob x (by rw[e];simp)).1
    rw[k2] at this;exact this
theorem bD.j0(m:bD W h rb M T oa oc ea ec es)(s:ByteArray):aM s=false∨(aM s=true∧M.f s=none∧∃A B,T=A++B∧(∀x∈A,fI x.o.b.id s)∧∀x∈B,fI s x.o.b.id)∨(aM s=true∧∃A x B,T=A++x::B∧(∀y∈A,fI y.o.b.id s)∧x.o.b.id =s∧M.f s=some x.o):=by
  cases e:aM s with
  |false=>exact .inl rfl
  |true=>exact .inr ((m.find s).imp (fun k=>⟨rfl,k⟩) fun k=>⟨rfl,k⟩)
theorem bD.tick(m:bD W h rb M T oa oc ea ec es){t:Int}(g:RG rb h h')(hm:h'[rb]? =some (.cells #[.slice oa T.length oc, .slice ea M.E.length ec, .int .i64 t] 86))(h0:0≤t)(h1:t≤1099511627776):bD W h' rb ⟨M.f,M.E,t⟩ T oa oc ea ec es:=
  have nr:∀k,k=rb→aZ h k∨W k:=fun k e=> .inl (e▸aZ.cells m.hm (by decide))
  ⟨hm,m.row.fr g (fun k e=>e▸oo.cells m.hm (by decide)),m.fQ,fun x hx=>by obtain⟨k1,k2,k3,k4⟩:=m.ob x hx;exact⟨k1,k2,k3.zero rfl,k4.fr g nr⟩,m.al,m.er.fr g nr,m.en.fr g nr,m.ln,h0,h1,m.kb,m.ix⟩
theorem Ao{x y:RO}(h:(A++x::B).Pairwise fun x y=>fI x.o.b.id y.o.b.id)(e:y.o.b.id =x.o.b.id):(A++y::B).Pairwise fun x y=>fI x.o.b.id y.o.b.id :=by
  rw[List.pairwise_append,List.pairwise_cons] at*
  obtain⟨h1,⟨h2,h3⟩,h4⟩:=h
  refine⟨h1,⟨fun z hz=>by rw[e];exact h2 z hz,h3⟩,fun z hz w hw=> ?_⟩
  rcases List.mem_cons.1 hw with q|q
  · subst q;rw[e];exact h4 z hz x (by simp)
  · exact h4 z hz w (by simp[q])
theorem Ap{y:RO}(h:(A++B).Pairwise fun x y=>fI x.o.b.id y.o.b.id)(hA:∀x∈A,fI x.o.b.id y.o.b.id)(hB:∀x∈B,fI y.o.b.id x.o.b.id):(A++y::B).Pairwise fun x y=>fI x.o.b.id y.o.b.id :=by
  rw[List.pairwise_append] at*
  refine⟨h.1,List.pairwise_cons.2 ⟨hB,h.2.1⟩,fun z hz w hw=> ?_⟩
  rcases List.mem_cons.1 hw with q|q
  · subst q;exact hA z hz
  · exact h.2.2 z hz w q
theorem bD.set{x y:RO}(m:bD W h rb M (A++x::B) oa oc ea ec es)(g:RG rb h h'){C9:Option Addr}{oc':Nat}(hm:h'[rb]? =some (.cells #[.slice C9 (A++x::B).length oc', .slice ea M.E.length ec, .int .i64 M.t] 86))(row:jE 97 h' (.slice C9 (A++x::B).length oc') (A++x::B).length 40 (bz (A++y::B)))
    (hb:y.o.b =x.o.b) (hd:y.o.dt =x.o.dt) (hba:y.ba =x.ba) (hbc:y.bc =x.bc) (hr:Row h' (.slice y.ca 0 y.cc) 0 4 (da [])):bB W h' rb ⟨upd M.f x.o.b.id y.o,M.E,M.t⟩:=by
  have nr:∀k,k=rb→aZ h k∨W k:=fun k e=> .inl (e▸aZ.cells m.hm (by decide))
  have hl:(A++y::B).length =(A++x::B).length :=by simp
  have hne:∀z,z∈A∨z∈B→z.o.b.id ≠x.o.b.id :=fun z hz=>by
    have h:=m.fQ
    rw[List.pairwise_append,List.pairwise_cons] at h
    rcases hz with hz|hz
    · exact fJ (h.2.2 z hz x (by simp))
    · exact fun e=>fJ (h.2.1.1 z hz) e.symm
  refine⟨A++y::B,C9,oc',ea,ec,es, ?_, ?_,Ao m.fQ (by rw[hb]),fun z hz=> ?_,fun t o ht=> ?_,m.er.fr g nr,m.en.fr g nr,by rw[hl];exact m.ln,m.t0,m.t1,m.kb,fun t o ht=> ?_⟩
  · rw[hl];exact hm
  · rw[hl];exact row
  · have hz' : z = y ∨ ((z ∈ A ∨ z ∈ B) ∧ z ∈ A ++ x :: B) := by
      rcases List.mem_append.1 hz with q|q
      · exact .inr ⟨.inl q,by simp[q]⟩
      · rcases List.mem_cons.1 q with q | q
        · exact .inl q
        · exact .inr ⟨.inr q,by simp[q]⟩
    rcases hz' with rfl|⟨q1,q2⟩
    · obtain ⟨_, k2, _, k4⟩ := m.ob x (by simp)
      refine⟨by rw[hb];exact gv _ _ _,by rw[hd];exact k2,hr, ?_⟩
      rw[hd,hba,hbc];exact k4.fr g nr
    · obtain ⟨k1, k2, k3, k4⟩ := m.ob z q2
      exact⟨by show upd M.f _ _ _=_;rw[upd_ne (hne z q1)];exact k1,k2,k3.zero rfl,k4.fr g nr⟩
  · by_cases e : t = x.o.b.id
    · exact⟨y,by simp,by rw[hb,e]⟩
    · obtain ⟨z, q1, q2⟩ := m.al t o (by rw [← ht]; exact (upd_ne e).symm)
      rcases List.mem_append.1 q1 with q|q
      · exact⟨z,by simp[q],q2⟩
      · rcases List.mem_cons.1 q with q | q
        · subst q;exact absurd q2.symm e
        · exact⟨z,by simp[q],q2⟩
  · have ht : upd M.f x.o.b.id y.o t = some o := ht
    by_cases e:t=x.o.b.id
    · subst e
      rw[gv] at ht
      cases ht
      rw[hb];exact m.ix _ _ (m.ob x (by simp)).1
    · rw [upd_ne e] at ht
      exact m.ix t o ht
theorem bD.put {y : RO} {e : List UInt8} {xa : Option Addr} {xc : Nat} (m : bD W h rb M (A ++ B) oa oc ea ec es) (hA : ∀ x ∈ A, fI x.o.b.id s) (hB : ∀ x ∈ B, fI s x.o.b.id) (hy : y.o.b.id = s) (hyl : y.o.dt.length ≤ 512) (hyi : y.o.b.idx = ((M.E.length : Nat) : Int)) (g : RG rb h h') {C9 y9 : Option Addr} {oc' y_ : Nat}
    (hm:h'[rb]? =some (.cells #[.slice C9 (A++y::B).length oc', .slice y9 (M.E.length +1) y_, .int .i64 M.t] 86)) (row:jE 97 h' (.slice C9 (A++y::B).length oc') (A++y::B).length 40 (bz (A++y::B))) (r1:Row h' (.slice y.ca 0 y.cc) 0 4 (da [])) (r2:cr W h' (.slice y.ba y.o.dt.length y.bc) y.o.dt.length 1 (y.o.dt.map bv))
    (er:cr W h' (.slice y9 (M.E.length +1) y_) (M.E.length +1) 1 (es++[.slice xa e.length xc])) (he:e.length ≤64) (hx:cr W h' (.slice xa e.length xc) e.length 1 (e.map bv)):bB W h' rb ⟨upd M.f s y.o,M.E ++[e],M.t⟩:=by
  subst hy
  have nr:∀k,k=rb→aZ h k∨W k:=fun k e=> .inl (e▸aZ.cells m.hm (by decide))
  refine⟨A++y::B,C9,oc',y9,y_,es++[.slice xa e.length xc], ?_,row,Ap m.fQ hA hB,fun z hz=> ?_,fun t o ht=> ?_, ?_, ?_, ?_,m.t0,m.t1,m.kb,fun t o ht=> ?_⟩
  · rw[show(M.E ++[e]).length =M.E.length +1 from by simp];exact hm
  · have hz' : z = y ∨ (z.o.b.id ≠ y.o.b.id ∧ z ∈ A ++ B) := by
      rcases List.mem_append.1 hz with q|q
      · exact .inr ⟨fJ (hA z q),by simp[q]⟩
      · rcases List.mem_cons.1 q with q | q
        · exact .inl q
        · exact .inr ⟨fun e=>fJ (hB z q) e.symm,by simp[q]⟩
    rcases hz' with rfl|⟨q1,q2⟩
    · exact⟨gv _ _ _,hyl,r1,r2⟩
    · obtain ⟨k1, k2, k3, k4⟩ := m.ob z q2
      exact⟨by show upd M.f _ _ _=_;rw[upd_ne q1];exact k1,k2,k3.zero rfl,k4.fr g nr⟩
  · by_cases e2 : t = y.o.b.id
    · exact⟨y,by simp,e2.symm⟩
    · obtain ⟨z, q1, q2⟩ := m.al t o (by rw [← ht]; exact (upd_ne e2).symm)
      rcases List.mem_append.1 q1 with q|q
      · exact⟨z,by simp[q],q2⟩
      · exact⟨z,by simp[q],q2⟩
  · rw[show(M.E ++[e]).length =M.E.length +1 from by simp];exact er
  · have m' := m.en.fr g nr
    refine⟨by simp[m'.1],fun i e' hi=> ?_⟩
    by_cases hl:i<M.E.length
    · rw [List.getElem?_append_left hl] at hi
      obtain⟨h0,a,c,h1,h2⟩:=m'.2 i e' hi
      exact⟨h0,a,c,by rw[List.getElem?_append_left (by rw[m'.1];exact hl)];exact h1,h2⟩
    · have h0 : i = M.E.length := by
        have:=(List.getElem?_eq_some_iff.1 hi).1
        simp at this;omega
      subst h0
      simp only[List.getElem?_concat_length,Option.some.injEq] at hi
      subst hi
      exact⟨he,xa,xc,by rw[←m'.1];simp,hx⟩
  · have:=m.ln;simp at this⊢;omega
  · have ht : upd M.f y.o.b.id y.o t = some o := ht
    have hl:(M.E ++[e]).length =M.E.length +1:=by simp
    by_cases e2:t=y.o.b.id
    · subst e2
      rw[gv] at ht
      cases ht
      rw[hyi];show(0:Int)≤_∧((M.E.length :Nat):Int)<(((M.E ++[e]).length :Nat):Int)
      rw[hl];omega
    · rw [upd_ne e2] at ht
      have:=m.ix t o ht
      show _∧_<(((M.E ++[e]).length :Nat):Int)
      rw[hl];omega
end
theorem bD.new{W:Nat→Prop}{h:Heap}{b:Nat}(m:h[b]? =some (.cells #[.slice none 0 0, .slice none 0 0, .int .i64 0] 86))(kb:0<b):bB W h b ⟨fun _=>none,[],0⟩:=
  ⟨[],none,0,none,0,[],{hm:=m,row:=jE.nil _ _ _,fQ:=List.Pairwise.nil,ob:=by simp,al:=by simp,er:=cr.nil _ _ _,en:=⟨rfl,by simp⟩,ln:=rfl,t0:=by decide,t1:=by decide,kb:=kb,ix:=by simp}⟩
theorem RG.one{rb:Nat}{h h1 h2:Heap}(e:Ext h h1)(g:Grew (some rb) h1 h2):RG rb h h2:=(Gr.ext (Gr.start _ h) e).bX g fun _ e=> .inl (Option.some.inj e).symm
theorem RG.again{rb:Nat}{h h1 h2:Heap}(k:RG rb h h1)(g:Grew (some rb) h1 h2):RG rb h h2:=Gr.bX k g fun _ e=> .inl (Option.some.inj e).symm
theorem RG.then{rb:Nat}{h h1 h2:Heap}(k:RG rb h h1)(g:RG rb h1 h2):RG rb h h2:=⟨Nat.le_trans k.1 g.1,fun i hi hn=>(g.2 i (Nat.lt_of_lt_of_le hi k.1) hn).trans (k.2 i hi hn)⟩
theorem RG.aK{rb:Nat}{h h1:Heap}(e:Ext h h1):RG rb h h1:=Gr.ext (Gr.start _ h) e
theorem Aq{E:List (List UInt8)}{i:Int}(h:0≤i∧i<(E.length :Int)):∃p,cA (cE E) i=(p,0):=by
  have hl:(cE E).length =E.length :=by unfold cE;simp
  refine⟨incl (cE E) i.toNat, ?_⟩
  unfold cA;rw[if_pos (by rw[hl];exact h)]
theorem ie{h:Heap}{v:Value}{A:An}{ba ia pa:Option Addr}{bc ic pc:Nat}(hv:v=px A (.slice ba A.b.length bc) (.slice ia A.i.length ic) (.slice pa A.p.length pc))(o1:Own h (.slice ba A.b.length bc) 5 A.b.length 1 (A.b.map bv))(o2:Own h (.slice ia A.i.length ic) 9 A.i.length 1 (A.i.map Value.string))(o3:Own h (.slice pa A.p.length pc) 39 A.p.length 32 (hcs A.p))(h32:aq A.p):AnsAt h v A:=
  ⟨ba,bc,ia,ic,pa,pc,hv,aC.of o1 (by decide),aC.of o2 (by decide),aC.of o3 (by decide),h32⟩
def ry(s:ByteArray)(b:List UInt8)(n:Nat)(ad:Option Addr)(cap:Nat):RO:=⟨ph s b n,none,0,ad,cap⟩
theorem bD.MY{W:Nat→Prop}{h h':Heap}{rb:Nat}{M:Md}{T:List RO}{oa:Option Addr}{oc:Nat}{ea:Option Addr}{ec:Nat}{es:List Value}(m:bD W h rb M T oa oc ea ec es)(g:RG rb h h'):cr W h' (.slice ea M.E.length ec) M.E.length 1 es:=
  m.er.fr g fun k e=> .inl (e▸aZ.cells m.hm (by decide))
theorem MZ{a:Option Addr}{c k:Nat}:a=if c=0 then a else a.map (·.add (0*k)):=by
  split
  · rfl
  · cases a<;>simp[Addr.add]
/-! ### the records of the row -/
open Go.Proofs.YtegkejcglfgpmaaGreatDoor
@[reducible] def iq(x:RO):Rec:=⟨x.o.b,x.o.e,x.o.ho,x.o.go,x.ca,0,x.cc⟩
section
variable {W:Nat→Prop} {h:Heap} {rb:Nat} {M:Md} {T:List RO} {oa:Option Addr} {oc:Nat} {ea:Option Addr} {ec:Nat} {es:List Value} {S:List Rec} {k:Nat} {x:RO}
theorem bD.enum(m:bD W h rb M T oa oc ea ec es):dA M (T.map iq) where
  nd:=by
    rw[List.map_map]
    exact List.pairwise_map.2 (m.fQ.imp fun q=>fJ q)
  at_:=fun r hr=>by obtain⟨x,hx,rfl⟩:=List.mem_map.1 hr;exact⟨x.o,(m.ob x hx).1,rfl,rfl,rfl,rfl⟩
  al:=fun s o hs=>by obtain⟨x,hx,e⟩:=m.al s o hs;exact⟨iq x,List.mem_map.2 ⟨x,hx,rfl⟩,e⟩
theorem bD.FC(m:bD W h rb M T oa oc ea ec es):iJ M=live (T.map iq):=by
  rw[kL m.enum]
  refine List.mergeSort_of_pairwise ?_
  unfold live ids
  refine List.pairwise_map.2 (List.Pairwise.sublist List.filter_sublist (List.pairwise_map.2 (m.fQ.imp fun {a b} q=> ?_)))
  have:Go.Proofs.ltOf ug b.o.b.id a.o.b.id =false:=zT.2 (by have:=dH a.o.b.id.data.toList b.o.b.id.data.toList;unfold fI at q;omega)
  simp[this]
theorem bD.I9(m:bD W h rb M T oa oc ea ec es)(hp:S.Perm ((T.map iq).filter (dI M.t)))(hs:S.Pairwise fP):eE M=Go.aN.ids S:=sM m.enum hp fun p q _ h2 h3=>by
  have:=List.pairwise_iff_getElem.1 hs p q (by omega) h3 h2
  simpa[List.getD,h3,Nat.lt_trans h2 h3] using this
theorem ig(hx:T[k]? =some x):(T.take (k+1)).map iq=(T.take k).map iq++[iq x]:=by rw[List.take_add_one,hx];simp
theorem ij(hx:T[k]? =some x)(hg:x.o.go =true):live ((T.take (k+1)).map iq)=live ((T.take k).map iq):=by rw[ig hx];simp[live,ids,List.filter_append,sL,hg]
theorem ik(hx:T[k]? =some x)(hg:x.o.go =false):live ((T.take (k+1)).map iq)=live ((T.take k).map iq)++[x.o.b.id]:=by rw[ig hx];simp[live,ids,List.filter_append,sL,hg]
end
/-! ### places in the row -/
/-- the place of an id in the row: where it is, or would be -/
def AtP(T:List RO)(s:ByteArray)(k:Nat)(r:Bool):Prop:=∃A B,T=A++B∧A.length =k∧(∀x∈A,fI x.o.b.id s)∧((B=[]∧r=false)∨∃x B',B=x::B'∧¬fI x.o.b.id s∧r=decide (x.o.b.id =s))
section
variable {T A B:List RO} {s:ByteArray} {k i j:Nat} {x:RO} {r:Bool}
theorem AtP.step(a:AtP T s k r)(hi:i≤k):(i<k∧i<T.length ∧∃x,T[i]? =some x∧fI x.o.b.id s)∨(i=k∧¬i<T.length ∧r=false)∨(i=k∧i<T.length ∧∃x,T[i]? =some x∧¬fI x.o.b.id s∧decide (x.o.b.id =s)=r):=by
  obtain⟨A,B,rfl,rfl,hA,hB⟩:=a
  rcases Nat.lt_or_ge i A.length with h|h
  · exact .inl ⟨h,by rw[List.length_append];omega,A[i],by rw[List.getElem?_append_left h,List.getElem?_eq_getElem h],hA _ (List.getElem_mem h)⟩
  · have e : i = A.length := by omega
    subst e
    rcases hB with⟨rfl,h0⟩|⟨x,B',rfl,h1,h2⟩
    · exact .inr (.inl ⟨rfl,by simp,h0⟩)
    · exact .inr (.inr ⟨rfl,by simp,x,by simp,h1,h2.symm⟩)
theorem AtP.no(hA:∀x∈A,fI x.o.b.id s)(hB:∀x∈B,fI s x.o.b.id):AtP (A++B) s A.length false:=by
  refine⟨A,B,rfl,rfl,hA, ?_⟩
  cases B with
  |nil=>exact .inl ⟨rfl,rfl⟩
  |cons x B=>exact .inr ⟨x,B,rfl,pF (hB x (by simp)),(decide_eq_false fun e=>fJ (hB x (by simp)) e.symm).symm⟩
theorem AtP.yes(hA:∀x∈A,fI x.o.b.id s)(e:x.o.b.id =s):AtP (A++x::B) s A.length true:=
  ⟨A,x::B,rfl,rfl,hA, .inr ⟨x,B,rfl,fun h=>fJ h e,(decide_eq_true e).symm⟩⟩
def M3(T:List RO)(s:ByteArray)(q:Nat)(e:Int):Prop:=(aM s=false∧q=0∧e=210)∨(aM s=true∧(∃k,AtP T s k false)∧q=0∧e=211)∨(aM s=true∧AtP T s q true∧e=0)
theorem BH(hx:T[k]? =some x):T.getD k I8=x∧k<T.length :=⟨by simp[List.getD,hx],(List.getElem?_eq_some_iff.1 hx).1⟩
theorem wU:A.length <(A++x::B).length :=by rw[List.length_append,List.length_cons];omega
theorem C_:0<(A++x::B).length :=by rw[List.length_append,List.length_cons];omega
theorem q8:(A++x::B)[A.length]? =some x:=by simp
end
end Go.aN
namespace Go.aj
open Go Go.aN
section
variable {P:Program} {h:Heap} {a:Addr} {va xa:Option Addr} {n c m k q j:Nat} {T A B:List RO} {x:RO} {S:TypeId} {u:Value}
theorem Row.ro(r:Row h (.slice (some a) n c) m 40 (bz T))(hx:T[k]? =some x)(hS:cG P S=some (true,40))(hq:q=k*40):Loads P h S (a.add q) (.agg (q7 x).toArray):=by
  obtain⟨e,hk⟩:=BH hx;rw[←e];exact Row.fm (d:=I8) jF r hS hk hq
theorem Row.I_(r:Row h (.slice (some a) n c) m 40 (bz T))(hx:T[k]? =some x)(hu:(q7 x)[j]? =some u):hcell h (a.add (k*40+j))=some u:=by
  obtain⟨e,hk⟩:=BH hx;rw[←e] at hu;exact r.cells _ _ (qO (d:=I8) jF hk hu)
theorem Row.wV(r:Row h (.slice (some a) n c) m 40 (bz T))(hx:T[k]? =some x):hcell h (a.add (k*40))=some (.string x.o.b.id):=Row.I_ (k:=k) (j:=0) r hx rfl
theorem Row.FD(r:Row h (.slice (some a) n c) m 40 (bz T))(hx:T[k]? =some x):hcell h (a.add (k*40+37))=some (.bool x.o.go):=Row.I_ (k:=k) (j:=37) r hx rfl
theorem Row.Hv(r:Row h (.slice (some a) n c) m 40 (bz T))(hx:T[k]? =some x)(hS:cG P S=some (true,39))(hq:q=k*40):Loads P h S (a.add q) (.agg (rc x.o.b x.o.e x.o.ho x.o.go (.slice x.ca 0 x.cc)).toArray):=by
  subst hq
  refine Loads.agg hS fun j u hu=> ?_
  rw[add_add]
  exact r.I_ hx (by show(rc x.o.b x.o.e x.o.ho x.o.go (.slice x.ca 0 x.cc)++[_])[j]? =some u;rw[List.getElem?_append_left (List.getElem?_eq_some_iff.1 hu).1];exact hu)
theorem Row.FF{b:Nat}{E:TypeId}{fr:Nat×Nat}(m:h[b]? =some (.cells (q7 x).toArray E fr)):Row h (.slice (some ⟨b,0,none⟩) 1 1) 1 40 (bz [x]):=by
  rw[show bz [x]=q7 x from List.append_nil _];exact Row.blk m rfl
theorem Row.BI{b:Nat}{E:TypeId}{fr:Nat×Nat}(m:h[b]? =some (.cells (rcs (iq x)).toArray E fr)):Row h (.slice (some ⟨b,0,none⟩) 1 1) 1 39 (a7 [iq x]):=by
  rw[show a7 [iq x]=rcs (iq x) from List.append_nil _];exact Row.blk m rfl
theorem bD.aO{W:Nat→Prop}{h h':Heap}{rb c:Nat}{M:Md}{T:List RO}{oa:Option Addr}{oc:Nat}{ea:Option Addr}{ec:Nat}{es:List Value}{cs:Array Value}{E:TypeId}{fr:Nat×Nat}(m:bD W h rb M T oa oc ea ec es)(g:Grew (some c) h h')(k:h[c]? =some (.cells cs E fr))(hE:kK E=false)(hT:E≠97)(hn:rb≠c):bD W h' rb M T oa oc ea ec es:=
  m.fr (F:=fun i=>i=c) ⟨g.1,fun _ hi hne=>g.2 _ hi fun e=>hne (Option.some.inj e)⟩ (fun _ e=>e▸⟨.inl (aZ.cells k hE),oo.cells k hT⟩) hn
theorem _root_.Go.aN.bB.aO{W:Nat→Prop}{h h':Heap}{rb c:Nat}{M:Md}{cs:Array Value}{E:TypeId}{fr:Nat×Nat}(m:bB W h rb M)(g:Grew (some c) h h')(k:h[c]? =some (.cells cs E fr))(hE:kK E=false∧E≠97)(hn:rb≠c):bB W h' rb M:=by
  obtain⟨T,oa,oc,ea,ec,es,m⟩:=m;exact⟨T,oa,oc,ea,ec,es,bD.aO m g k hE.1 hE.2 hn⟩
theorem Row.FG(r:Row h (.slice va (A++B).length c) (A++B).length 40 (bz (A++B))):Row h (.slice va A.length c) A.length 40 (bz A):=by
  refine⟨j5 A, ?_⟩
  rcases r.2 with⟨e,h0⟩|⟨a,cap,e,hc,hx⟩
  · rw [List.length_append] at h0
    have h1:A.length =0:=by omega
    simp only[Value.slice.injEq] at e
    obtain⟨rfl,_,rfl⟩:=e
    exact .inl ⟨by rw[h1],h1⟩
  · simp only [Value.slice.injEq] at e
    obtain⟨rfl,_,rfl⟩:=e
    exact .inr ⟨a,_,rfl,by rw[List.length_append] at hc;omega,fun j u hu=>hx j u (by show((A++B).flatMap q7)[j]? =_;rw[List.flatMap_append,List.getElem?_append_left (List.getElem?_eq_some_iff.1 hu).1];exact hu)⟩
theorem Row.FH(r:Row h (.slice va (A++B).length c) (A++B).length 40 (bz (A++B)))(e:xa=if c=A.length then va else va.map (·.add (A.length *40))):Row h (.slice xa ((A++B).length - A.length) (c - A.length)) B.length 40 (bz B):=by
  have hl:(A++B).length - A.length =B.length :=by simp
  rw[hl]
  refine⟨j5 B, ?_⟩
  rcases r.2 with⟨e2,h0⟩|⟨a,cap,e2,hc,hx⟩
  · rw [List.length_append] at h0
    have h1:A.length =0:=by omega
    have h2:B.length =0:=by omega
    simp only[Value.slice.injEq] at e2
    obtain⟨rfl,_,rfl⟩:=e2
    refine .inl ⟨?_,h2⟩
    rw[e,h1,h2];rfl
  · simp only [Value.slice.injEq] at e2
    obtain⟨rfl,_,rfl⟩:=e2
    rw[List.length_append] at hc
    by_cases hb:c=A.length
    · have h2 : B = [] := List.eq_nil_of_length_eq_zero (by omega)
      subst h2
      rw[if_pos hb] at e
      subst e
      exact .inr ⟨a,_,rfl,by simp,fun j u hu=>by simp[bz] at hu⟩
    · rw [if_neg hb] at e
      subst e
      refine .inr ⟨a.add (A.length *40),_,rfl,by omega,fun j u hu=> ?_⟩
      rw[add_add]
      refine hx _ u ?_
      show((A++B).flatMap q7)[_]? =_
      rw[List.flatMap_append,List.getElem?_append_right (by rw[eG jF];omega),eG jF,Nat.add_sub_cancel_left]
      exact hu
theorem uD{e:Int}{ho go:Bool}{ca:Option Addr}{cc:Nat}:splice (bz (A++x::B)) (A.length *40) (rc x.o.b e ho go (.slice ca 0 cc))=bz (A++⟨⟨x.o.b,e,ho,go,x.o.dt⟩,ca,cc,x.ba,x.bc⟩::B):=by
  have h1:(bz A).length =A.length *40:=j5 A
  have h2:(rc x.o.b e ho go (.slice ca 0 cc)).length =39:=rfl
  have h3:(rc x.o.b x.o.e x.o.ho x.o.go (.slice x.ca 0 x.cc)).length =39:=rfl
  unfold splice
  show(((A++x::B).flatMap q7).take _++_++((A++x::B).flatMap q7).drop _)=(A++_::B).flatMap q7
  rw[List.flatMap_append,List.flatMap_append,List.flatMap_cons,List.flatMap_cons,List.take_left' h1, ←List.drop_drop,List.drop_left' h1,h2]
  show _=A.flatMap q7++((rc x.o.b e ho go (.slice ca 0 cc)++[_])++_)
  rw[show q7 x++B.flatMap q7=rc x.o.b x.o.e x.o.ho x.o.go (.slice x.ca 0 x.cc)++([.slice x.ba x.o.dt.length x.bc]++B.flatMap q7) from List.append_assoc _ _ _,List.drop_left' h3]
  simp only[List.append_assoc]
end
end Go.aj
end
section
namespace Go.Proofs.YtegkejcglfgpmaaGreatDoor
open Go Go.aj Go.aN
noncomputable def M4:Code:=Tryz.f122.body.getD .skip
theorem wW(h:Heap):Sat Tryz.prog 122 #[.slice none 0 0] h fun v h'=>l9 h h' 180 v []:=by
 refine ag Tryz.func122 8 fun a b=>qP [] b fun a b=>cS<|qP [(4,.bool true)] b fun a b=>cT 4 b<|qP [(2,.slice none 0 0)] b fun a b=>cR (yT ?_)
 exact rT 2 (.slice none 0 0) b<|⟨none,0,rfl,Own.nil _ _ _,(fun k e=>by cases e),Ext.refl h⟩
theorem uE(h:Heap)(L:List Pl)(aa:Addr)(vc:Nat)(hr:Row h (.slice (some aa) L.length vc) L.length 4 (da L))(hL:L.length ≤1099511627776):Sat Tryz.prog 122 #[.slice (some aa) L.length vc] h fun v h'=>l9 h h' 180 v L:=by
 have f:=Ext.refl h
 have c:Sep h.size h.size []:=Sep.nil _ _
 refine ag Tryz.func122 8 fun a d=>qP [] d fun a d=>cS<|qP [(4,.bool false)] d fun a d=>cF 4 d<|cN<|tK ?_
 refine qS d<|tN 0 (.slice (some ⟨h.size,0,none⟩) 0 0) #[] 180 fun k m j=> ?_
 replace c:=c.nw f.size j
 have b:Own k (.slice (some ⟨h.size,0,none⟩) 0 0) 180 ([]:List Pl).length 4 (da []):=Own.empty 4 j
 replace c:Sep h.size k.size [(some ⟨h.size,0,none⟩:Option Addr).map (·.block)]:=c
 replace f:=f.ext m
 replace hr:=hr.ext m
 clear j
 refine tP 2 L.length 32 (da L) b hr (o7 _) (fun g e p b n i=> ?_) (hl:=(by unfold maxLen;simp;omega)) (hb:=(by simp;omega)) (hZ:=by first|rfl|exact List.flatMap_append.symm |simp[da])
 clear hr
 have o:=c
 replace c:=c.sa n 0 i b f.size;clear i
 refine sT [(2,.slice g L.length e)] fun a d=>cR<|rT 2 (.slice g L.length e) d ?_
 replace f:=f.grew n (o.l 0)
 exact⟨_,_,rfl,b,c.low 0 rfl,f⟩
theorem j6(h:Heap)(L:List Pl)(va:Option Addr)(vc:Nat)(hr:Row h (.slice va L.length vc) L.length 4 (da L))(hL:L.length ≤1099511627776):Sat Tryz.prog 122 #[.slice va L.length vc] h fun v h'=>l9 h h' 180 v L:=by
 cases va with
 | none =>
  rcases hr.2 with⟨e,e1⟩|⟨a,cap,e,_⟩
  ·simp only[Value.slice.injEq,true_and] at e
   obtain rfl:L=[]:=List.eq_nil_of_length_eq_zero e1
   obtain rfl:vc=0:=e.2
   exact wW h
  ·cases e
 |some aa=>exact uE h L aa vc hr hL
noncomputable def M5:Code:=Tryz.f101.body.getD .skip
theorem uG(h:Heap)(br:Nat)(x:RB)(e:Int)(ho go:Bool)(va:Option Addr)(n vc:Nat)(hm:h[br]? =some (.cells (rc x e ho go (.slice va n vc)).toArray 95))(bu:Nat)(u:Int)(hu:h[bu]? =some (.cells #[.int .i64 u] 3))(hne:bu≠br):Sat Tryz.prog 101 #[.pointer (some ⟨br,0,none⟩),.pointer (some ⟨bu,0,none⟩)] h fun _ h'=>h'[br]? =some (.cells (rc x (max e u) ho go (.slice va n vc)).toArray 95)∧Grew (some br) h h':=by
 have b:=Grew.refl (some br) h
 refine ag Tryz.func101 12 fun a c=>cD [0,0,2,6,14,0,62,127,255,511] 0 mixed c<|mP 15 [0,1,2,3] [pV br,pV br,pV br,.pointer (some ⟨br,35,none⟩)]<|mO 31 16 4 35 (.int .i64 e) hm<|mO 63 48 5 0 (.int .i64 u) hu<|m1 127 6 (.int .i64 (max e u)) (.int .i64 (if u>e then u else e)) (congrArg (Value.int .i64) (by rw[Int.max_def];split<;>split<;>omega))<|mP 511 [7,8] [pV br,.pointer (some ⟨br,35,none⟩)] ?_
 refine mV 1023 1023 9 35 [.int .i64 (max e u)] (rc x (max e u) ho go (.slice va n vc)) hm fun g d f=> ?_
 replace b:=b.trans d
 replace hu:=hu.y d
 replace hm:=f
 exact mE [] fun a c=>n0 c<|⟨hm,b⟩
noncomputable def M6:Code:=Tryz.f102.body.getD .skip
theorem uH(h:Heap)(br:Nat)(x:RB)(e:Int)(ho go:Bool)(va:Option Addr)(n vc:Nat)(hm:h[br]? =some (.cells (rc x e ho go (.slice va n vc)).toArray 95))(bu:Nat)(on:Bool)(hu:h[bu]? =some (.cells #[.bool on] 4))(hne:bu≠br):Sat Tryz.prog 102 #[.pointer (some ⟨br,0,none⟩),.pointer (some ⟨bu,0,none⟩)] h fun _ h'=>h'[br]? =some (.cells (rc x e on go (.slice va n vc)).toArray 95)∧Grew (some br) h h':=by
 have b:=Grew.refl (some br) h
 refine ag Tryz.func102 7 fun a c=>rS c<|tO 1 0 hu<|tV 4 36 [.bool on] (rc x e on go (.slice va n vc)) hm fun g d f=> ?_
 replace b:=b.trans d
 replace hu:=hu.y d
 replace hm:=f
 exact sE [] fun a c=>n0 c<|⟨hm,b⟩
noncomputable def M7:Code:=Tryz.f103.body.getD .skip
theorem wX(h:Heap)(br:Nat)(x:RB)(e:Int)(ho go:Bool)(va:Option Addr)(n vc:Nat)(hm:h[br]? =some (.cells (rc x e ho go (.slice va n vc)).toArray 95)):Sat Tryz.prog 103 #[.pointer (some ⟨br,0,none⟩)] h fun _ h'=>h'[br]? =some (.cells (rc x e ho true (.slice none 0 0)).toArray 95)∧Grew (some br) h h':=by
 have b:=Grew.refl (some br) h
 refine ag Tryz.func103 8 fun a c=>rS c<|tV 4 37 [.bool true] (rc x e ho true (.slice va n vc)) hm fun i f d=> ?_
 replace b:=b.trans f
 replace hm:=d
 refine tV 7 38 [.slice none 0 0] (rc x e ho true (.slice none 0 0)) hm fun j g d=> ?_
 replace b:=b.trans g
 replace hm:=d
 exact sE [] fun a c=>n0 c<|⟨hm,b⟩
noncomputable def M8:Code:=Tryz.f100.body.getD .skip
theorem pG(h:Heap)(x:RB)(e:Int)(ho go:Bool)(L:List Pl)(va:Option Addr)(vc:Nat)(hr:Row h (.slice va L.length vc) L.length 4 (da L))(hL:L.length ≤1099511627776)(bu:Nat)(u:Int)(hu:h[bu]? =some (.cells #[.int .i64 u] 3)):Sat Tryz.prog 100 #[.agg (rc x e ho go (.slice va L.length vc)).toArray,.func (.func 101) #[] #[.pointer (some ⟨bu,0,none⟩)]] h fun v h'=>∃c,v= .agg (rc x (max e u) ho go c).toArray ∧l9 h h' 180 c L:=by
 have i:=Ext.refl h
 have b:Sep h.size h.size []:=Sep.nil _ _
 have hbu:=ak hu
 refine ag Tryz.func100 12 fun a r=>qS r<|tN 0 (pV h.size) ((rc x e ho go (.slice va L.length vc)).toArray) 95 fun A B m=> ?_
 replace b:=b.nw i.size m
 refine tN 1 (pV A.size) ((bY).toArray) 95 fun G w q=> ?_
 replace i:=i.ext B
 replace b:=b.nw i.size q
 refine sT [(2,pV h.size),(4,pV A.size)] fun a r=>qS r ?_
 replace m:=m.x w
 refine tO 1 38 m ?_
 replace i:=i.ext w
 refine tG 2 (j6 _ L va vc (hr.ext i) hL) ?_
 rintro _ C ⟨n,j,rfl,o,hge,g⟩
 have t:=i.size
 have a8:=b
 replace hu:=(hu.x B).x w
 replace i:=i.ext g
 replace hu:=hu.x g
 replace m:=m.x g
 replace q:=q.x g
 replace b:=b.up g.size
 replace b:=a8.cons (x:=n.map (fun(x:Addr)=>x.block)) g.size t (fun k e=>⟨hge k e,o.lt (by rw[af];exact e)⟩)
 have d:Own C (.slice n L.length j) 180 L.length 4 (da L):=o;clear o a8 t hge g
 refine tV 4 38 [.slice n L.length j] (rc x e ho go (.slice n L.length j)) m fun D p z=> ?_
 replace hu:=hu.y p (fun e=>by have:=b.low 2 rfl _ e.symm;omega)
 replace m:=z
 refine sT [] fun a r=>qS r<|tF 1 (Does.call (f:=101) (args:= #[.pointer (some ⟨h.size,0,none⟩),.pointer (some ⟨bu,0,none⟩)]) (by kernel_rfl) (uG _ _ x e ho go _ _ _ m bu u hu (by have:=hbu;omega))) ?_
 rintro _ E ⟨hm2,g⟩
 replace i:=i.grew p (b.l 2)
 replace d:=d.k p (b.ap 0 2)
 replace q:=q.y p (b.bp 1 2)
 replace b:=b.up p.size
 replace i:=i.grew g (b.l 2)
 replace d:=d.k g (b.ap 0 2)
 replace hu:=hu.y g (fun e=>by have:=b.low 2 rfl _ e.symm;omega)
 replace q:=q.y g (b.bp 1 2)
 replace b:=b.up g.size
 clear m;have m:=hm2;clear hm2 g
 refine sT [] fun a r=>qS r<|tR 0 m<|bA 1 (rc x (max e u) ho go (.slice n L.length j)) q fun F s z=> ?_
 replace hu:=hu.y s (fun e=>by have:=b.low 1 rfl _ e.symm;omega)
 replace q:=z
 refine sT [] fun a r=>cR<|rB q r ?_
 replace i:=i.grew s (b.l 1)
 replace d:=d.k s (b.ap 0 1)
 exact⟨_,rfl,⟨_,_,rfl,d,b.low 0 rfl,i⟩⟩
theorem pH(h:Heap)(x:RB)(e:Int)(ho go:Bool)(L:List Pl)(va:Option Addr)(vc:Nat)(hr:Row h (.slice va L.length vc) L.length 4 (da L))(hL:L.length ≤1099511627776)(bu:Nat)(on:Bool)(hu:h[bu]? =some (.cells #[.bool on] 4)):Sat Tryz.prog 100 #[.agg (rc x e ho go (.slice va L.length vc)).toArray,.func (.func 102) #[] #[.pointer (some ⟨bu,0,none⟩)]] h fun v h'=>∃c,v= .agg (rc x e on go c).toArray ∧l9 h h' 180 c L:=by
 have i:=Ext.refl h
 have b:Sep h.size h.size []:=Sep.nil _ _
 have hbu:=ak hu
 refine ag Tryz.func100 12 fun a r=>qS r<|tN 0 (pV h.size) ((rc x e ho go (.slice va L.length vc)).toArray) 95 fun z A m=> ?_
 replace b:=b.nw i.size m
 refine tN 1 (pV z.size) ((bY).toArray) 95 fun F u q=> ?_
 replace i:=i.ext A
 replace b:=b.nw i.size q
 refine sT [(2,pV h.size),(4,pV z.size)] fun a r=>qS r ?_
 replace m:=m.x u
 refine tO 1 38 m ?_
 replace i:=i.ext u
 refine tG 2 (j6 _ L va vc (hr.ext i) hL) ?_
 rintro _ B ⟨n,j,rfl,o,hge,g⟩
 have t:=i.size
 have a8:=b
 replace hu:=(hu.x A).x u
 replace i:=i.ext g
 replace hu:=hu.x g
 replace m:=m.x g
 replace q:=q.x g
 replace b:=b.up g.size
 replace b:=a8.cons (x:=n.map (fun(x:Addr)=>x.block)) g.size t (fun k e=>⟨hge k e,o.lt (by rw[af];exact e)⟩)
 have d:Own B (.slice n L.length j) 180 L.length 4 (da L):=o;clear o a8 t hge g
 refine tV 4 38 [.slice n L.length j] (rc x e ho go (.slice n L.length j)) m fun C p w=> ?_
 replace hu:=hu.y p (fun e=>by have:=b.low 2 rfl _ e.symm;omega)
 replace m:=w
 refine sT [] fun a r=>qS r<|tF 1 (Does.call (f:=102) (args:= #[.pointer (some ⟨h.size,0,none⟩),.pointer (some ⟨bu,0,none⟩)]) (by kernel_rfl) (uH _ _ x e ho go _ _ _ m bu on hu (by have:=hbu;omega))) ?_
 rintro _ D ⟨hm2,g⟩
 replace i:=i.grew p (b.l 2)
 replace d:=d.k p (b.ap 0 2)
 replace q:=q.y p (b.bp 1 2)
 replace b:=b.up p.size
 replace i:=i.grew g (b.l 2)
 replace d:=d.k g (b.ap 0 2)
 replace hu:=hu.y g (fun e=>by have:=b.low 2 rfl _ e.symm;omega)
 replace q:=q.y g (b.bp 1 2)
 replace b:=b.up g.size
 clear m;have m:=hm2;clear hm2 g
 refine sT [] fun a r=>qS r<|tR 0 m<|bA 1 (rc x e on go (.slice n L.length j)) q fun E s w=> ?_
 replace hu:=hu.y s (fun e=>by have:=b.low 1 rfl _ e.symm;omega)
 replace q:=w
 refine sT [] fun a r=>cR<|rB q r ?_
 replace i:=i.grew s (b.l 1)
 replace d:=d.k s (b.ap 0 1)
 exact⟨_,rfl,⟨_,_,rfl,d,b.low 0 rfl,i⟩⟩
theorem q9(h:Heap)(x:RB)(e:Int)(ho go:Bool)(L:List Pl)(va:Option Addr)(vc:Nat)(hr:Row h (.slice va L.length vc) L.length 4 (da L))(hL:L.length ≤1099511627776):Sat Tryz.prog 100 #[.agg (rc x e ho go (.slice va L.length vc)).toArray,.func (.func 103) #[] #[]] h fun v h'=>v= .agg (rc x e ho true (.slice none 0 0)).toArray ∧Ext h h':=by
 have d:=Ext.refl h
 have b:Sep h.size h.size []:=Sep.nil _ _
 refine ag Tryz.func100 12 fun a o=>qS o<|tN 0 (pV h.size) ((rc x e ho go (.slice va L.length vc)).toArray) 95 fun u z i=> ?_
 replace b:=b.nw d.size i
 refine tN 1 (pV u.size) ((bY).toArray) 95 fun E w n=> ?_
 replace d:=d.ext z
 replace b:=b.nw d.size n
 refine sT [(2,pV h.size),(4,pV u.size)] fun a o=>qS o ?_
 replace i:=i.x w
 refine tO 1 38 i ?_
 replace d:=d.ext w
 refine tG 2 (j6 _ L va vc (hr.ext d) hL) ?_
 rintro _ A ⟨p,j,rfl,m,hge,g⟩
 have r:=d.size
 have a8:=b
 replace d:=d.ext g
 replace i:=i.x g
 replace n:=n.x g
 replace b:=b.up g.size
 replace b:=a8.cons (x:=p.map (fun(x:Addr)=>x.block)) g.size r (fun k e=>⟨hge k e,m.lt (by rw[af];exact e)⟩)
 have c:Own A (.slice p L.length j) 180 L.length 4 (da L):=m;clear m a8 r hge g
 refine tV 4 38 [.slice p L.length j] (rc x e ho go (.slice p L.length j)) i fun B q s=> ?_
 replace i:=s
 refine sT [] fun a o=>qS o<|tF 1 (Does.call (f:=103) (args:= #[.pointer (some ⟨h.size,0,none⟩)]) (by kernel_rfl) (wX _ _ x e ho go _ _ _ i)) ?_
 rintro _ C ⟨hm2,g⟩
 replace d:=d.grew q (b.l 2)
 replace c:=c.k q (b.ap 0 2)
 replace n:=n.y q (b.bp 1 2)
 replace b:=b.up q.size
 replace d:=d.grew g (b.l 2)
 replace c:=c.k g (b.ap 0 2)
 replace n:=n.y g (b.bp 1 2)
 replace b:=b.up g.size
 clear i;have i:=hm2;clear hm2 g
 refine sT [] fun a o=>qS o<|tR 0 i<|bA 1 (rc x e ho true (.slice none 0 0)) n fun D t s=> ?_
 replace n:=s
 refine sT [] fun a o=>cR<|rB n o ?_
 replace d:=d.grew t (b.l 1)
 exact⟨rfl,d⟩
noncomputable def b68:Code:=Tryz.f68.body.getD .skip
theorem uI(h:Heap)(x:RB)(e:Int)(ho:Bool)(L:List Pl)(va:Option Addr)(vc:Nat)(u:Int)(hu0:0≤u)(hu:u≤1099511627776):Sat Tryz.prog 68 #[.agg (rc x e ho true (.slice va L.length vc)).toArray,.int .i64 u] h fun v h'=>v= .tuple #[.agg (rc dn (0:Int) false false (.slice none 0 0)).toArray,.int .i64 213]∧Ext h h':=by
 have d:=Ext.refl h
 have b:Sep h.size h.size []:=Sep.nil _ _
 refine ag Tryz.func68 21 fun a c=>qS c<|tN 0 (pV h.size) ((rc x e ho true (.slice va L.length vc)).toArray) 95 fun m p g=> ?_
 replace b:=b.nw d.size g
 refine tN 1 (pV m.size) #[.int .i64 u] 3 fun n o f=> ?_
 replace d:=d.ext p
 replace b:=b.nw d.size f
 refine tN 2 (pV n.size) ((bY).toArray) 95 fun s j i=> ?_
 replace d:=d.ext o
 replace b:=b.nw d.size i
 refine sT [(2,pV h.size),(3,pV m.size),(4,pV n.size)] fun a c=>cS<|cB 0<|qS c ?_
 replace f:=f.x j
 refine tO 0 0 f<|tX 1 (u<(0:Int))<|tO 3 0 f<|tX 4 ((1099511627776:Int)<u)<|sT [(6,.bool false)] fun a c=>cF 6 c<|qS c ?_
 replace g:=(g.x o).x j
 refine tO 1 37 g<|sT [(14,.bool true)] fun a c=>cT 14 c<|qS c<|bA 1 (bY) i fun q k r=> ?_
 replace i:=r
 refine sT [(5,.int .i64 213)] fun a c=>cR (yB (yT ?_))
 refine aI [.cell 4 95,.tmp 5] [.agg (bY).toArray,.int .i64 213] (.tuple #[.agg (bY).toArray,.int .i64 213]) rfl c ⟨⟨_,rfl,Loads.blk (vs:=bY) (by kernel_rfl) i rfl⟩,rfl,trivial⟩ rfl ?_
 replace d:=(d.ext j).grew k (b.l 0)
 exact⟨rfl,d⟩
theorem Ar(h:Heap)(x:RB)(e:Int)(ho:Bool)(L:List Pl)(va:Option Addr)(vc:Nat)(hr:Row h (.slice va L.length vc) L.length 4 (da L))(hL:L.length ≤1099511627776)(u:Int)(hu0:0≤u)(hu:u≤1099511627776):Sat Tryz.prog 68 #[.agg (rc x e ho false (.slice va L.length vc)).toArray,.int .i64 u] h fun v h'=>∃c,v= .tuple #[.agg (rc x (max e u) ho false c).toArray,.int .i64 0]∧l9 h h' 180 c L:=by
 have i:=Ext.refl h
 have b:Sep h.size h.size []:=Sep.nil _ _
 refine ag Tryz.func68 21 fun a m=>qS m<|tN 0 (pV h.size) ((rc x e ho false (.slice va L.length vc)).toArray) 95 fun y B q=> ?_
 replace b:=b.nw i.size q
 refine tN 1 (pV y.size) #[.int .i64 u] 3 fun z A o=> ?_
 replace i:=i.ext B
 replace b:=b.nw i.size o
 refine tN 2 (pV z.size) ((bY).toArray) 95 fun E t p=> ?_
 replace i:=i.ext A
 replace b:=b.nw i.size p
 refine sT [(2,pV h.size),(3,pV y.size),(4,pV z.size)] fun a m=>cS<|cB 0<|qS m ?_
 replace o:=o.x t
 refine tO 0 0 o<|tX 1 (u<(0:Int))<|tO 3 0 o<|tX 4 ((1099511627776:Int)<u)<|sT [(6,.bool false)] fun a m=>cF 6 m<|qS m ?_
 replace q:=(q.x A).x t
 refine tO 1 37 q<|sT [(14,.bool false)] fun a m=>cF 14 m<|cN<|bK<|tK<|qS m ?_
 refine tR 0 q ?_
 replace i:=i.ext t
 refine tG 2 (pG _ x e ho false L va vc (hr.ext i) hL _ u o) ?_
 rintro _ w ⟨_,rfl,f,d,rfl,n,hge,g⟩
 have r:=i.size
 have a8:=b
 replace i:=i.ext g
 replace p:=p.x g
 replace b:=a8.cons (x:=f.map (fun(x:Addr)=>x.block)) g.size r (fun k e=>⟨hge k e,n.lt (by rw[af];exact e)⟩)
 have j:Own w (.slice f L.length d) 180 L.length 4 (da L):=n;clear n a8 r hge g
 refine bA 3 (rc x (max e u) ho false (.slice f L.length d)) p fun C s D=> ?_
 replace p:=D
 refine sT [(5,.int .i64 0)] fun a m=>cR<|aI [.cell 4 95,.tmp 5] [.agg (rc x (max e u) ho false (.slice f L.length d)).toArray,.int .i64 0] (.tuple #[.agg (rc x (max e u) ho false (.slice f L.length d)).toArray,.int .i64 0]) rfl m ⟨⟨_,rfl,Loads.blk (vs:=rc x (max e u) ho false (.slice f L.length d)) (by kernel_rfl) p rfl⟩,rfl,trivial⟩ rfl ?_
 replace i:=i.grew s (b.l 1)
 replace j:=j.k s (b.ap 0 1)
 exact⟨_,rfl,⟨_,_,rfl,j,b.low 0 rfl,i⟩⟩
noncomputable def b69:Code:=Tryz.f69.body.getD .skip
theorem uJ(h:Heap)(x:RB)(e:Int)(ho:Bool)(L:List Pl)(va:Option Addr)(vc:Nat)(on:Bool):Sat Tryz.prog 69 #[.agg (rc x e ho true (.slice va L.length vc)).toArray,.bool on] h fun v h'=>v= .tuple #[.agg (rc dn (0:Int) false false (.slice none 0 0)).toArray,.int .i64 213]∧Ext h h':=by
 have c:=Ext.refl h
 have b:Sep h.size h.size []:=Sep.nil _ _
 refine ag Tryz.func69 12 fun a d=>qS d<|tN 0 (pV h.size) ((rc x e ho true (.slice va L.length vc)).toArray) 95 fun j o f=> ?_
 replace b:=b.nw c.size f
 refine tN 1 (pV j.size) #[.bool on] 4 fun k m p=> ?_
 replace c:=c.ext o
 replace b:=b.nw c.size p
 refine tN 2 (pV k.size) ((bY).toArray) 95 fun s n g=> ?_
 replace c:=c.ext m
 replace b:=b.nw c.size g
 refine sT [(2,pV h.size),(3,pV j.size),(4,pV k.size)] fun a d=>cS<|qS d ?_
 replace f:=(f.x m).x n
 refine tO 1 37 f<|sT [(7,.bool true)] fun a d=>cT 7 d<|qS d<|bA 1 (bY) g fun q i r=> ?_
 replace g:=r
 refine sT [(5,.int .i64 213)] fun a d=>cR (yT ?_)
 refine aI [.cell 4 95,.tmp 5] [.agg (bY).toArray,.int .i64 213] (.tuple #[.agg (bY).toArray,.int .i64 213]) rfl d ⟨⟨_,rfl,Loads.blk (vs:=bY) (by kernel_rfl) g rfl⟩,rfl,trivial⟩ rfl ?_
 replace c:=(c.ext n).grew i (b.l 0)
 exact⟨rfl,c⟩
theorem As(h:Heap)(x:RB)(e:Int)(ho:Bool)(L:List Pl)(va:Option Addr)(vc:Nat)(hr:Row h (.slice va L.length vc) L.length 4 (da L))(hL:L.length ≤1099511627776)(on:Bool):Sat Tryz.prog 69 #[.agg (rc x e ho false (.slice va L.length vc)).toArray,.bool on] h fun v h'=>∃c,v= .tuple #[.agg (rc x e on false c).toArray,.int .i64 0]∧l9 h h' 180 c L:=by
 have i:=Ext.refl h
 have b:Sep h.size h.size []:=Sep.nil _ _
 refine ag Tryz.func69 12 fun a n=>qS n<|tN 0 (pV h.size) ((rc x e ho false (.slice va L.length vc)).toArray) 95 fun w A p=> ?_
 replace b:=b.nw i.size p
 refine tN 1 (pV w.size) #[.bool on] 4 fun y z s=> ?_
 replace i:=i.ext A
 replace b:=b.nw i.size s
 refine tN 2 (pV y.size) ((bY).toArray) 95 fun D t o=> ?_
 replace i:=i.ext z
 replace b:=b.nw i.size o
 refine sT [(2,pV h.size),(3,pV w.size),(4,pV y.size)] fun a n=>cS<|qS n ?_
 replace p:=(p.x z).x t
 refine tO 1 37 p<|sT [(7,.bool false)] fun a n=>cF 7 n<|cN<|tK<|qS n<|tR 0 p ?_
 replace i:=i.ext t
 replace s:=s.x t
 refine tG 2 (pH _ x e ho false L va vc (hr.ext i) hL _ on s) ?_
 rintro _ u ⟨_,rfl,f,d,rfl,m,hge,g⟩
 have q:=i.size
 have a8:=b
 replace i:=i.ext g
 replace o:=o.x g
 replace b:=a8.cons (x:=f.map (fun(x:Addr)=>x.block)) g.size q (fun k e=>⟨hge k e,m.lt (by rw[af];exact e)⟩)
 have j:Own u (.slice f L.length d) 180 L.length 4 (da L):=m;clear m a8 q hge g
 refine bA 3 (rc x e on false (.slice f L.length d)) o fun B r C=> ?_
 replace o:=C
 refine sT [(5,.int .i64 0)] fun a n=>cR<|aI [.cell 4 95,.tmp 5] [.agg (rc x e on false (.slice f L.length d)).toArray,.int .i64 0] (.tuple #[.agg (rc x e on false (.slice f L.length d)).toArray,.int .i64 0]) rfl n ⟨⟨_,rfl,Loads.blk (vs:=rc x e on false (.slice f L.length d)) (by kernel_rfl) o rfl⟩,rfl,trivial⟩ rfl ?_
 replace i:=i.grew r (b.l 1)
 replace j:=j.k r (b.ap 0 1)
 exact⟨_,rfl,⟨_,_,rfl,j,b.low 0 rfl,i⟩⟩
noncomputable def b70:Code:=Tryz.f70.body.getD .skip
theorem pI(h:Heap)(x:RB)(e:Int)(ho:Bool)(L:List Pl)(va:Option Addr)(vc:Nat)(u:Int):Sat Tryz.prog 70 #[.agg (rc x e ho true (.slice va L.length vc)).toArray,.int .i64 u] h fun v h'=>v= .tuple #[.agg (rc dn (0:Int) false false (.slice none 0 0)).toArray,.int .i64 213]∧Ext h h':=by
 have d:=Ext.refl h
 have b:Sep h.size h.size []:=Sep.nil _ _
 refine ag Tryz.func70 22 fun a c=>qS c<|tN 0 (pV h.size) ((rc x e ho true (.slice va L.length vc)).toArray) 95 fun i k f=> ?_
 replace b:=b.nw d.size f
 refine tN 1 (pV i.size) ((bY).toArray) 95 fun o j g=> ?_
 replace d:=d.ext k
 replace b:=b.nw d.size g
 refine sT [(2,pV h.size),(4,pV i.size)] fun a c=>cS<|cB 0<|qS c ?_
 replace f:=f.x j
 refine tO 1 37 f<|sT [(6,.bool true)] fun a c=>cT 6 c<|qS c<|bA 1 (bY) g fun p m n=> ?_
 replace g:=n
 refine sT [(5,.int .i64 213)] fun a c=>cR (yB (yT ?_))
 refine aI [.cell 4 95,.tmp 5] [.agg (bY).toArray,.int .i64 213] (.tuple #[.agg (bY).toArray,.int .i64 213]) rfl c ⟨⟨_,rfl,Loads.blk (vs:=bY) (by kernel_rfl) g rfl⟩,rfl,trivial⟩ rfl ?_
 replace d:=(d.ext j).grew m (b.l 0)
 exact⟨rfl,d⟩
theorem pJ(h:Heap)(x:RB)(e:Int) (L:List Pl)(va:Option Addr)(vc:Nat)(u:Int):Sat Tryz.prog 70 #[.agg (rc x e true false (.slice va L.length vc)).toArray,.int .i64 u] h fun v h'=>v= .tuple #[.agg (rc dn (0:Int) false false (.slice none 0 0)).toArray,.int .i64 214]∧Ext h h':=by
 have d:=Ext.refl h
 have b:Sep h.size h.size []:=Sep.nil _ _
 refine ag Tryz.func70 22 fun a c=>qS c<|tN 0 (pV h.size) ((rc x e true false (.slice va L.length vc)).toArray) 95 fun i k f=> ?_
 replace b:=b.nw d.size f
 refine tN 1 (pV i.size) ((bY).toArray) 95 fun o j g=> ?_
 replace d:=d.ext k
 replace b:=b.nw d.size g
 refine sT [(2,pV h.size),(4,pV i.size)] fun a c=>cS<|cB 0<|qS c ?_
 replace f:=f.x j
 refine tO 1 37 f<|sT [(6,.bool false)] fun a c=>cF 6 c<|qS c<|tO 1 36 f<|sT [(10,.bool true)] fun a c=>cT 10 c ?_
 refine qS c<|bA 1 (bY) g fun p m n=> ?_
 replace g:=n
 refine sT [(5,.int .i64 214)] fun a c=>cR (yB (yT ?_))
 refine aI [.cell 4 95,.tmp 5] [.agg (bY).toArray,.int .i64 214] (.tuple #[.agg (bY).toArray,.int .i64 214]) rfl c ⟨⟨_,rfl,Loads.blk (vs:=bY) (by kernel_rfl) g rfl⟩,rfl,trivial⟩ rfl ?_
 replace d:=(d.ext j).grew m (b.l 0)
 exact⟨rfl,d⟩
theorem pK(h:Heap)(x:RB)(e:Int) (L:List Pl)(va:Option Addr)(vc:Nat)(u:Int)(hu:u<e):Sat Tryz.prog 70 #[.agg (rc x e false false (.slice va L.length vc)).toArray,.int .i64 u] h fun v h'=>v= .tuple #[.agg (rc dn (0:Int) false false (.slice none 0 0)).toArray,.int .i64 214]∧Ext h h':=by
 have d:=Ext.refl h
 have b:Sep h.size h.size []:=Sep.nil _ _
 refine ag Tryz.func70 22 fun a c=>qS c<|tN 0 (pV h.size) ((rc x e false false (.slice va L.length vc)).toArray) 95 fun i k f=> ?_
 replace b:=b.nw d.size f
 refine tN 1 (pV i.size) ((bY).toArray) 95 fun o j g=> ?_
 replace d:=d.ext k
 replace b:=b.nw d.size g
 refine sT [(2,pV h.size),(4,pV i.size)] fun a c=>cS<|cB 0<|qS c ?_
 replace f:=f.x j
 refine tO 1 37 f<|sT [(6,.bool false)] fun a c=>cF 6 c<|qS c<|tO 1 36 f<|tO 4 35 f<|tT 6 (u<e) ?_
 refine sT [(10,.bool true)] fun a c=>cT 10 c<|qS c<|bA 1 (bY) g fun p m n=> ?_
 replace g:=n
 refine sT [(5,.int .i64 214)] fun a c=>cR (yB (yT ?_))
 refine aI [.cell 4 95,.tmp 5] [.agg (bY).toArray,.int .i64 214] (.tuple #[.agg (bY).toArray,.int .i64 214]) rfl c ⟨⟨_,rfl,Loads.blk (vs:=bY) (by kernel_rfl) g rfl⟩,rfl,trivial⟩ rfl ?_
 replace d:=(d.ext j).grew m (b.l 0)
 exact⟨rfl,d⟩
theorem wY(h:Heap)(x:RB)(e:Int) (L:List Pl)(va:Option Addr)(vc:Nat)(hr:Row h (.slice va L.length vc) L.length 4 (da L))(hL:L.length ≤1099511627776)(u:Int)(hu:e≤u):Sat Tryz.prog 70 #[.agg (rc x e false false (.slice va L.length vc)).toArray,.int .i64 u] h fun v h'=>v= .tuple #[.agg (rc x e false true (.slice none 0 0)).toArray,.int .i64 0]∧Ext h h':=by
 have d:=Ext.refl h
 have b:Sep h.size h.size []:=Sep.nil _ _
 refine ag Tryz.func70 22 fun a c=>qS c<|tN 0 (pV h.size) ((rc x e false false (.slice va L.length vc)).toArray) 95 fun j n f=> ?_
 replace b:=b.nw d.size f
 refine tN 1 (pV j.size) ((bY).toArray) 95 fun p k g=> ?_
 replace d:=d.ext n
 replace b:=b.nw d.size g
 refine sT [(2,pV h.size),(4,pV j.size)] fun a c=>cS<|cB 0<|qS c ?_
 replace f:=f.x k
 refine tO 1 37 f<|sT [(6,.bool false)] fun a c=>cF 6 c<|qS c<|tO 1 36 f<|tO 4 35 f<|tX 6 (u<e) ?_
 refine sT [(10,.bool false)] fun a c=>cF 10 c<|cN<|bK<|tK<|qS c<|tR 0 f ?_
 replace d:=d.ext k
 refine tG 1 (q9 _ x e false false L va vc (hr.ext d) hL) ?_
 rintro _ q ⟨rfl,m⟩
 replace g:=g.x m
 refine bA 2 (rc x e false true (.slice none 0 0)) g fun r i o=> ?_
 replace g:=o
 refine sT [(5,.int .i64 0)] fun a c=>cR<|aI [.cell 4 95,.tmp 5] [.agg (rc x e false true (.slice none 0 0)).toArray,.int .i64 0] (.tuple #[.agg (rc x e false true (.slice none 0 0)).toArray,.int .i64 0]) rfl c ⟨⟨_,rfl,Loads.blk (vs:=rc x e false true (.slice none 0 0)) (by kernel_rfl) g rfl⟩,rfl,trivial⟩ rfl ?_
 replace d:=(d.ext m).grew i (b.l 0)
 exact⟨rfl,d⟩
noncomputable def b64:Code:=Tryz.f64.body.getD .skip
theorem uK(h:Heap):Sat Tryz.prog 64 #[.slice none 0 0] h fun v h'=>∃ad cap,v= .slice ad 0 cap∧Own h' (.slice ad 0 cap) 5 0 1 []∧(∀k,ad.map (fun(x:Addr)=>x.block)=some k→h.size ≤k)∧Ext h h':=by
 refine ag Tryz.func64 8 fun a b=>qP [] b fun a b=>cS<|qP [(4,.bool true)] b fun a b=>cT 4 b<|qP [(2,.slice none 0 0)] b fun a b=>cR (yT ?_)
 exact rT 2 (.slice none 0 0) b<|⟨none,0,rfl,Own.nil _ _ _,(fun k e=>by cases e),Ext.refl h⟩
theorem q_(h:Heap)(l:List UInt8)(n:Nat)(aa:Addr)(vc:Nat)(hr:Row h (.slice (some aa) n vc) n 1 (l.map bv))(hn:n≤1099511627776):Sat Tryz.prog 64 #[.slice (some aa) n vc] h fun v h'=>∃ad cap,v= .slice ad n cap∧Own h' (.slice ad n cap) 5 n 1 (l.map bv)∧(∀k,ad.map (fun(x:Addr)=>x.block)=some k→h.size ≤k)∧Ext h h':=by
 have f:=Ext.refl h
 have c:Sep h.size h.size []:=Sep.nil _ _
 refine ag Tryz.func64 8 fun a d=>qP [] d fun a d=>cS<|qP [(4,.bool false)] d fun a d=>cF 4 d<|cN<|tK ?_
 refine qS d<|tN 0 (.slice (some ⟨h.size,0,none⟩) 0 0) #[] 5 fun m o j=> ?_
 replace c:=c.nw f.size j
 have b:Own m (.slice (some ⟨h.size,0,none⟩) 0 0) 5 ([]:List UInt8).length 1 (([]:List UInt8).map bv):=Own.empty 1 j
 replace c:Sep h.size m.size [(some ⟨h.size,0,none⟩:Option Addr).map (·.block)]:=c
 replace f:=f.ext o
 replace hr:=hr.ext o
 clear j
 refine tP 2 n 1 (l.map bv) b hr (aE _) (fun g e r b p i=> ?_)
 clear hr
 have q:=c
 replace c:=c.sa p 0 i b f.size;clear i
 refine sT [(2,.slice g n e)] fun a d=>cR<|rT 2 (.slice g n e) d ?_
 replace f:=f.grew p (q.l 0)
 exact⟨_,_,rfl,b,c.low 0 rfl,f⟩
theorem eR(h:Heap)(l:List UInt8)(n:Nat)(va:Option Addr)(vc:Nat)(hr:Row h (.slice va n vc) n 1 (l.map bv))(hn:n≤1099511627776):Sat Tryz.prog 64 #[.slice va n vc] h fun v h'=>∃ad cap,v= .slice ad n cap∧Own h' (.slice ad n cap) 5 n 1 (l.map bv)∧(∀k,ad.map (fun(x:Addr)=>x.block)=some k→h.size ≤k)∧Ext h h':=by
 cases va with
 | none =>
  rcases hr.2 with⟨e,e1⟩|⟨a,cap,e,_⟩
  ·simp only[Value.slice.injEq,true_and] at e
   obtain⟨rfl,rfl⟩:=e
   obtain rfl:l=[]:=List.eq_nil_of_length_eq_zero (by have:=hr.1;simpa using this)
   exact uK h
  ·cases e
 |some aa=>exact q_ h l n aa vc hr hn
noncomputable def b44:Code:=Tryz.f44.body.getD .skip
theorem uL(h:Heap):Sat Tryz.prog 44 #[.slice none 0 0] h fun v h'=>∃ad cap,v= .slice ad 0 cap∧Own h' (.slice ad 0 cap) 32 0 1 []∧(∀k,ad.map (fun(x:Addr)=>x.block)=some k→h.size ≤k)∧Ext h h':=by
 refine ag Tryz.func44 8 fun a b=>qP [] b fun a b=>cS<|qP [(4,.bool true)] b fun a b=>cT 4 b<|qP [(2,.slice none 0 0)] b fun a b=>cR (yT ?_)
 exact rT 2 (.slice none 0 0) b<|⟨none,0,rfl,Own.nil _ _ _,(fun k e=>by cases e),Ext.refl h⟩
theorem re(h:Heap)(l:List Value)(n:Nat)(aa:Addr)(vc:Nat)(hr:Row h (.slice (some aa) n vc) n 1 l)(hn:n≤1099511627776)(hone:∀u∈l,u.oneCell' =true):Sat Tryz.prog 44 #[.slice (some aa) n vc] h fun v h'=>∃ad cap,v= .slice ad n cap∧Own h' (.slice ad n cap) 32 n 1 l∧(∀k,ad.map (fun(x:Addr)=>x.block)=some k→h.size ≤k)∧Ext h h':=by
 have f:=Ext.refl h
 have c:Sep h.size h.size []:=Sep.nil _ _
 refine ag Tryz.func44 8 fun a d=>qP [] d fun a d=>cS<|qP [(4,.bool false)] d fun a d=>cF 4 d<|cN<|tK ?_
 refine qS d<|tN 0 (.slice (some ⟨h.size,0,none⟩) 0 0) #[] 32 fun m o j=> ?_
 replace c:=c.nw f.size j
 have b:Own m (.slice (some ⟨h.size,0,none⟩) 0 0) 32 ([]:List Value).length 1 ([]:List Value):=Own.empty 1 j
 replace c:Sep h.size m.size [(some ⟨h.size,0,none⟩:Option Addr).map (·.block)]:=c
 replace f:=f.ext o
 replace hr:=hr.ext o
 clear j
 refine tP 2 n 24 l b hr hone (fun g e r b p i=> ?_) (ys:=l)
 clear hr
 have q:=c
 replace c:=c.sa p 0 i b f.size;clear i
 refine sT [(2,.slice g n e)] fun a d=>cR<|rT 2 (.slice g n e) d ?_
 replace f:=f.grew p (q.l 0)
 exact⟨_,_,rfl,b,c.low 0 rfl,f⟩
theorem lI(h:Heap)(l:List Value)(n:Nat)(va:Option Addr)(vc:Nat)(hr:Row h (.slice va n vc) n 1 l)(hn:n≤1099511627776)(hone:∀u∈l,u.oneCell' =true):Sat Tryz.prog 44 #[.slice va n vc] h fun v h'=>∃ad cap,v= .slice ad n cap∧Own h' (.slice ad n cap) 32 n 1 l∧(∀k,ad.map (fun(x:Addr)=>x.block)=some k→h.size ≤k)∧Ext h h':=by
 cases va with
 | none =>
  rcases hr.2 with⟨e,e1⟩|⟨a,cap,e,_⟩
  ·simp only[Value.slice.injEq,true_and] at e
   obtain⟨rfl,rfl⟩:=e
   obtain rfl:l=[]:=List.eq_nil_of_length_eq_zero (by have:=hr.1;simpa using this)
   exact uL h
  ·cases e
 |some aa=>exact re h l n aa vc hr hn hone
noncomputable def b66:Code:=Tryz.f66.body.getD .skip
theorem FI{P:Program}{ops:Array Oper}{base:Nat→Value}{vals:aR}{i:Nat}{va:Option Addr}{n vc sz:Nat}(h:Heap)(hx:Cc P ops base vals i=some (va,n,vc,sz,none,some ((n:Nat):Int),some ((n:Nat):Int)))(hc:n≤vc):Go.aj.Calm P ops base vals i h (.slice va n n):=by
 have:=Go.aj.Calm.slice 0 n n hx (.inr ⟨rfl,hc,rfl⟩) (.inr rfl) (.inl ⟨rfl,rfl⟩) (Nat.zero_le _) (Nat.le_refl _) h
 simp only[Nat.zero_mul,Nat.sub_zero] at this
 have e:(if n=0 then va else va.map (fun(x:Addr)=>x.add 0))=va:=by
  have ha:∀x:Addr,x.add 0=x:=fun x=>by simp[Addr.add]
  split
  ·rfl
  ·cases va<;>simp[ha]
 rwa [e] at this
theorem wZ(h:Heap)(n:Nat)(va:Option Addr)(vc:Nat)(hc:n≤vc):Sat Tryz.prog 66 #[.slice va n vc] h fun v h'=>v= .slice va n n∧h'=h:=by
 refine ag Tryz.func66 9 fun a b=>qP [] b fun a b=>qS b<|tC 5 (.slice va n n) ((fun h=>FI (sz:=1) h (by kernel_rfl) hc) _)<|sT [(2,.slice va n n)] fun a b=>cR<|rT 2 (.slice va n n) b ?_
 exact⟨rfl,rfl⟩
noncomputable def b98:Code:=Tryz.f98.body.getD .skip
theorem rf(h:Heap)(n m:Nat)(hn:n≤1099511627776):Sat Tryz.prog 98 #[.int .i64 ((n:Nat):Int),.int .i64 ((m:Nat):Int)] h fun v h'=>v= .bool (decide (n≤m))∧h'=h:=by
 refine ag Tryz.func98 12 fun a b=>qP [] b fun a b=>cS ?_
 rcases Nat.lt_or_ge m n with hm|hm
 ·refine rS b<|tT 1 ((0:Int)≤((n:Nat):Int))<|tX 5 (((n:Nat):Int)≤((m:Nat):Int))<|sE [(4,.bool false)] fun a b=>tK<|cR<|rT 4 (.bool false) b ?_
  exact⟨congrArg Value.bool (by simp;omega),rfl⟩
 ·refine rS b<|tT 1 ((0:Int)≤((n:Nat):Int))<|tT 5 (((n:Nat):Int)≤((m:Nat):Int))<|sE [(4,.bool true)] fun a b=>tK<|cR<|rT 4 (.bool true) b ?_
  exact⟨congrArg Value.bool (by simp;omega),rfl⟩
noncomputable def b62:Code:=Tryz.f62.body.getD .skip
theorem w3(c:UInt8):jZ c=decide (97≤c.toNat ∧c.toNat ≤122∨48≤c.toNat ∧c.toNat ≤57∨c.toNat =45∨c.toNat =46):=by
 unfold jZ
 by_cases h1:97≤c.toNat ∧c.toNat ≤122<;>by_cases h2:48≤c.toNat ∧c.toNat ≤57<;>by_cases h3:c.toNat =45<;>by_cases h4:c.toNat =46<;>simp_all<;>omega
theorem pL(h:Heap)(s:ByteArray)(hsz:s.size ≤9223372036854775807):Sat Tryz.prog 62 #[.string s] h fun v h'=>v= .bool (aM s)∧h'=h:=by
 refine ag Tryz.func62 44 fun a b=>qP [] b fun a b=>cS<|qP [(6,nV s.size),(7,.int .i64 0)] b fun a b=>cB 0<|cL (fun m a h'=>∃i:Nat,m=s.size - i∧(h'=h)∧(i≤s.size)∧((s.data.toList.take i).all jZ=true)∧(Fr a 44 [(0,.string s),(6,.int .i64 ((s.size :Nat):Int)),(7,.int .i64 ((i:Nat):Int))])) (s.size - 0) ⟨0,rfl,rfl,(by omega),rfl,b.to⟩ ?_
 clear b a
 rintro m a e ⟨i,rfl,hh,hi,hall,b⟩
 refine qP [(8,.bool (decide (((i:Nat):Int)<((s.size :Nat):Int))))] b fun a b=>cS<|cJ 8 b (fun d=> ?_) fun d=> ?_
 ·have hia:i<s.size :=by omega
  obtain⟨c,hc⟩:=wC hia
  have hck:jZ c=decide (97≤c.toNat ∧c.toNat ≤122∨48≤c.toNat ∧c.toNat ≤57∨c.toNat =45∨c.toNat =46):=w3 c
  refine cN<|tK<|cS<|cB 1<|qP [(3,nV i)] b fun a b=>qS b<|tC 2 (.int .u8 (c.toNat :Int)) ((fun h=>Calm.strIdx (by kernel_rfl) hc h) _) ?_
  refine sT [(4,.int .u8 (c.toNat :Int))] fun a b=>cS ?_
  rcases(by omega:(97≤c.toNat ∧c.toNat ≤122)∨(48≤c.toNat ∧c.toNat ≤57)∨c.toNat =45∨c.toNat =46∨(122<c.toNat)∨(57<c.toNat ∧c.toNat <97)∨(c.toNat <48∧c.toNat ≠45∧c.toNat ≠46)) with hq|hq|hq|hq|hq|hq|hq
  ·have hok:jZ c=true:=by rw[hck];simp<;>omega
   have eS:=ee hall hc hok
   refine rS b<|tX 1 ((c.toNat :Int)<(97:Int))<|tX 4 ((122:Int)<(c.toNat :Int))<|sE [(34,.bool false)] fun a b=>tK<|cF 34 b<|cN ?_
   refine bK<|tK<|rS b<|tA 0 i 1<|sE [(7,nV (i+1))] fun a b=> ?_
   show ∃m',m'<_∧_
   refine⟨_,?_,(i+1),rfl,hh,(by omega),eS,b.to⟩
   omega
  ·have hok:jZ c=true:=by rw[hck];simp<;>omega
   have eS:=ee hall hc hok
   refine rS b<|tT 1 ((c.toNat :Int)<(97:Int))<|tX 8 ((c.toNat :Int)<(48:Int))<|tX 11 ((57:Int)<(c.toNat :Int))<|sE [(34,.bool false)] fun a b=>tK<|cF 34 b ?_
   refine cN<|bK<|tK<|rS b<|tA 0 i 1<|sE [(7,nV (i+1))] fun a b=> ?_
   show ∃m',m'<_∧_
   refine⟨_,?_,(i+1),rfl,hh,(by omega),eS,b.to⟩
   omega
  ·have hok:jZ c=true:=by rw[hck];simp<;>omega
   have eS:=ee hall hc hok
   refine rS b<|tT 1 ((c.toNat :Int)<(97:Int))<|tT 8 ((c.toNat :Int)<(48:Int))<|uF 16 (c.toNat :Int) 45<|sE [(34,.bool false)] fun a b=>tK<|cF 34 b ?_
   refine cN<|bK<|tK<|rS b<|tA 0 i 1<|sE [(7,nV (i+1))] fun a b=> ?_
   show ∃m',m'<_∧_
   refine⟨_,?_,(i+1),rfl,hh,(by omega),eS,b.to⟩
   omega
  ·have hok:jZ c=true:=by rw[hck];simp<;>omega
   have eS:=ee hall hc hok
   refine rS b<|tT 1 ((c.toNat :Int)<(97:Int))<|tT 8 ((c.toNat :Int)<(48:Int))<|uT 16 (c.toNat :Int) 45<|uF 20 (c.toNat :Int) 46<|sE [(34,.bool false)] fun a b=>tK ?_
   refine cF 34 b<|cN<|bK<|tK<|rS b<|tA 0 i 1<|sE [(7,nV (i+1))] fun a b=> ?_
   show ∃m',m'<_∧_
   refine⟨_,?_,(i+1),rfl,hh,(by omega),eS,b.to⟩
   omega
  ·have hok:jZ c=false:=by rw[hck];simp<;>omega
   have hno:=gU hc hok
   refine rS b<|tX 1 ((c.toNat :Int)<(97:Int))<|tT 4 ((122:Int)<(c.toNat :Int))<|tX 8 ((c.toNat :Int)<(48:Int))<|tT 11 ((57:Int)<(c.toNat :Int))<|uT 16 (c.toNat :Int) 45<|uT 20 (c.toNat :Int) 46 ?_
   refine sE [(34,.bool true)] fun a b=>tK<|cT 34 b<|qP [(2,.bool false)] b fun a b=>cR (yB (yT (yT (yB (yT ?_)))))
   exact rT 2 (.bool false) b<|⟨congrArg Value.bool (by first|exact hno.symm | (unfold aM;rw[hall];simp<;>omega)),hh⟩
  ·have hok:jZ c=false:=by rw[hck];simp<;>omega
   have hno:=gU hc hok
   refine rS b<|tT 1 ((c.toNat :Int)<(97:Int))<|tX 8 ((c.toNat :Int)<(48:Int))<|tT 11 ((57:Int)<(c.toNat :Int))<|uT 16 (c.toNat :Int) 45<|uT 20 (c.toNat :Int) 46<|sE [(34,.bool true)] fun a b=> ?_
   refine tK<|cT 34 b<|qP [(2,.bool false)] b fun a b=>cR (yB (yT (yT (yB (yT ?_)))))
   exact rT 2 (.bool false) b<|⟨congrArg Value.bool (by first|exact hno.symm | (unfold aM;rw[hall];simp<;>omega)),hh⟩
  ·have hok:jZ c=false:=by rw[hck];simp<;>omega
   have hno:=gU hc hok
   refine rS b<|tT 1 ((c.toNat :Int)<(97:Int))<|tT 8 ((c.toNat :Int)<(48:Int))<|uT 16 (c.toNat :Int) 45<|uT 20 (c.toNat :Int) 46<|sE [(34,.bool true)] fun a b=>tK ?_
   refine cT 34 b<|qP [(2,.bool false)] b fun a b=>cR (yB (yT (yT (yB (yT ?_)))))
   exact rT 2 (.bool false) b<|⟨congrArg Value.bool (by first|exact hno.symm | (unfold aM;rw[hall];simp<;>omega)),hh⟩
 ·obtain rfl:i=s.size :=by omega
  rw[←e6,List.take_length] at hall
  refine cX 0 (xT (xT (xB ?_)))
  refine tK<|cS ?_
  rcases(by omega:s.size =0∨(0<s.size ∧s.size ≤16)∨16<s.size) with hq|hq|hq
  ·exact rS b<|tX 2 ((0:Int)<((s.size :Nat):Int))<|sE [(2,.bool false)] fun a b=>tK<|cR<|rT 2 (.bool false) b<|⟨congrArg Value.bool (by first|exact hno.symm | (unfold aM;rw[hall];simp<;>omega)),hh⟩
  ·refine rS b<|tT 2 ((0:Int)<((s.size :Nat):Int))<|tT 6 (((s.size :Nat):Int)≤(16:Int))<|sE [(2,.bool true)] fun a b=>tK<|cR<|rT 2 (.bool true) b ?_
   exact⟨congrArg Value.bool (by first|exact hno.symm | (unfold aM;rw[hall];simp<;>omega)),hh⟩
  ·refine rS b<|tT 2 ((0:Int)<((s.size :Nat):Int))<|tX 6 (((s.size :Nat):Int)≤(16:Int))<|sE [(2,.bool false)] fun a b=>tK<|cR<|rT 2 (.bool false) b ?_
   exact⟨congrArg Value.bool (by first|exact hno.symm | (unfold aM;rw[hall];simp<;>omega)),hh⟩
end Go.Proofs.YtegkejcglfgpmaaGreatDoor
end
section
namespace Go.aj
open Go Go.aN
section
variable {P:Program} {ops:Array Oper} {base:Nat→Value} {vals:aR} {i:Nat} {h:Heap}
def LL (P : Program) (e : Operand → Value) (o : Oper) : Option (TypeId × ByteArray) :=
  match o.op with
  | .convert s d x => match e x, P.underlying s, P.underlying d with
    | .string b, some .string, some (.slice el) => match P.underlying el with
      |some (.int .u8)=>some (el,b)
      |_=>none
    |_,_,_=>none
  |_=>none
def I'(P:Program)(ops:Array Oper)(base:Nat→Value)(vals:aR)(i:Nat):=(iV ops base vals i).bind (LL P (env ops base vals i))
theorem Does.bytesOf{el:TypeId}{s:ByteArray}(hx:I' P ops base vals i=some (el,s)):
    Does P ops base vals i h fun v' h'=>∃cap,v'= .slice (some ⟨h.size,0,none⟩) s.size cap∧Row h' (.slice (some ⟨h.size,0,none⟩) s.size cap) s.size 1 (s.data.toList.map bv)∧Ext h h':=by
  refine aS hx fun o ho w hw=> ?_
  subst hw
  unfold LL at ho
  cases hop:o.op with
  | convert a d x =>
    simp only[hop] at ho
    split at ho<;>first| (cases ho;done)|skip
    rename_i b C' h1 h2 h3
    cases h4:P.underlying C' with
    |none=>simp[h4] at ho
    | some de =>
      cases de<;>simp only[h4] at ho<;>first| (cases ho;done)|skip
      rename_i k
      cases k<;>simp only[Option.some.injEq,Prod.mk.injEq] at ho<;>first| (cases ho;done)|skip
      obtain⟨rfl,rfl⟩:=ho
      have hrun:(execOp (env ops base vals i) o).run P w= .ok (.value (.slice (some ⟨w.heap.size,0,none⟩) b.size (grownCap w b.size 0 C'))) (Lib.bytesWorld w C' b):=by
        unfold execOp
        simp[hop,h1,Lib.run_convert_string_bytes w a d C' b h2 h3 h4]
      rw[hrun]
      refine⟨⟨rfl,rfl,rfl⟩,_,rfl,⟨by rw[List.length_map,Nat.mul_one];rfl, .inr ⟨_,_,rfl,grownCap_ge _ _ _ _,fun j u hu=> ?_⟩⟩,⟨by rw[Lib.bytesWorld_size];omega,fun k hk _=>Lib.bytesWorld_at_old w C' b k hk⟩⟩
      rw[List.getElem?_map] at hu
      cases hj:b.data.toList[j]? with
      |none=>rw[hj] at hu;cases hu
      | some c =>
        rw[hj] at hu
        simp only[Option.map_some,Option.some.injEq] at hu
        have hlt:j<b.size :=(List.getElem?_eq_some_iff.1 hj).1
        rw[←dZ (w:=Lib.bytesWorld w C' b) rfl,add_lit,Nat.zero_add]
        rw[Lib.bytesWorld_cell w C' b j hlt, ←hu,List.getD_eq_getElem?_getD,hj]
        rfl
  |_=>simp[hop] at ho
end
theorem FJ{n:Nat}{o x:Option Nat}(h:x=o∨∃g,x=some g∧n≤g):∀i,x=some i→o=some i∨n≤i:=fun i e=>by
  rcases h with h|⟨g,h,k⟩
  · exact .inl (h▸e)
  · rw[h] at e;cases e;exact .inr k
end Go.aj
end
section
namespace Go.Proofs.YtegkejcglfgpmaaGreatDoor
open Go Go.aj Go.aN
noncomputable def b27:Code:=Tryz.f27.body.getD .skip
theorem nm(h:Heap)(s:ByteArray)(hsz:s.size ≤9223372036854775807):Sat Tryz.prog 27 #[.string s] h fun v h'=>v= .bool (aM s)∧h'=h:=by
 refine ag Tryz.func27 45 fun a b=>qP [] b fun a b=>cS<|cS ?_
 rcases(by omega:s.size <1∨16<s.size ∨(1≤s.size ∧s.size ≤16)) with hq|hq|hq
 ·have hno:aM s=false:=by unfold aM;rw[show(decide (0<s.size)&&decide (s.size ≤16))=false by simp<;>omega,Bool.and_false]
  refine rS b<|tT 2 (((s.size :Nat):Int)<(1:Int))<|sE [(12,.bool true)] fun a b=>tK<|cT 12 b<|qP [(2,.bool false)] b fun a b=>cR (yT ?_)
  exact rT 2 (.bool false) b<|⟨congrArg Value.bool hno.symm,rfl⟩
 ·have hno:aM s=false:=by unfold aM;rw[show(decide (0<s.size)&&decide (s.size ≤16))=false by simp<;>omega,Bool.and_false]
  refine rS b<|tX 2 (((s.size :Nat):Int)<(1:Int))<|tT 6 ((16:Int)<((s.size :Nat):Int))<|sE [(12,.bool true)] fun a b=>tK<|cT 12 b<|qP [(2,.bool false)] b fun a b=> ?_
  refine cR (yT ?_)
  exact rT 2 (.bool false) b<|⟨congrArg Value.bool hno.symm,rfl⟩
 ·refine rS b<|tX 2 (((s.size :Nat):Int)<(1:Int))<|tX 6 ((16:Int)<((s.size :Nat):Int))<|sE [(12,.bool false)] fun a b=>tK<|cF 12 b<|cN ?_
  refine tK<|cS<|qP [(3,.int .i64 0)] b fun a b=>cB 0<|cL (fun m a h'=>∃i:Nat,m=s.size - i∧(h'=h)∧(i≤s.size)∧((s.data.toList.take i).all jZ=true)∧(Fr a 45 [(0,.string s),(3,.int .i64 ((i:Nat):Int))])) (s.size - 0) ⟨0,rfl,rfl,(by omega),rfl,b.to⟩ ?_
  clear b a
  rintro m a e ⟨i,rfl,hh,hi,hall,b⟩
  refine cS<|qP [(16,.bool (decide (((i:Nat):Int)<((s.size :Nat):Int))))] b fun a b=>cJ 16 b (fun d=> ?_) fun d=> ?_
  ·have hia:i<s.size :=by omega
   obtain⟨c,hc⟩:=wC hia
   have hck:jZ c=decide (97≤c.toNat ∧c.toNat ≤122∨48≤c.toNat ∧c.toNat ≤57∨c.toNat =45∨c.toNat =46):=w3 c
   refine cN<|tK<|cS<|cB 1<|qS b<|tC 2 (.int .u8 (c.toNat :Int)) ((fun h=>Calm.strIdx (by kernel_rfl) hc h) _)<|sT [(4,.int .u8 (c.toNat :Int))] fun a b=> ?_
   refine cS ?_
   rcases(by omega:(97≤c.toNat ∧c.toNat ≤122)∨(48≤c.toNat ∧c.toNat ≤57)∨c.toNat =45∨c.toNat =46∨(122<c.toNat)∨(57<c.toNat ∧c.toNat <97)∨(c.toNat <48∧c.toNat ≠45∧c.toNat ≠46)) with hq|hq|hq|hq|hq|hq|hq
   ·have hok:jZ c=true:=by rw[hck];simp<;>omega
    have eS:=ee hall hc hok
    refine rS b<|tT 1 ((97:Int)≤(c.toNat :Int))<|tT 4 ((c.toNat :Int)≤(122:Int))<|sE [(44,.bool false)] fun a b=>tK<|cF 44 b<|cN ?_
    refine bK<|tK<|rS b<|tA 1 i 1<|sE [(3,nV (i+1))] fun a b=> ?_
    show ∃m',m'<_∧_
    refine⟨_,?_,(i+1),rfl,hh,(by omega),eS,b.to⟩
    omega
   ·have hok:jZ c=true:=by rw[hck];simp<;>omega
    have eS:=ee hall hc hok
    refine rS b<|tX 1 ((97:Int)≤(c.toNat :Int))<|tT 8 ((48:Int)≤(c.toNat :Int))<|tT 11 ((c.toNat :Int)≤(57:Int))<|sE [(44,.bool false)] fun a b=>tK<|cF 44 b ?_
    refine cN<|bK<|tK<|rS b<|tA 1 i 1<|sE [(3,nV (i+1))] fun a b=> ?_
    show ∃m',m'<_∧_
    refine⟨_,?_,(i+1),rfl,hh,(by omega),eS,b.to⟩
    omega
   ·have hok:jZ c=true:=by rw[hck];simp<;>omega
    have eS:=ee hall hc hok
    refine rS b<|tX 1 ((97:Int)≤(c.toNat :Int))<|tX 8 ((48:Int)≤(c.toNat :Int))<|eT 16 (c.toNat :Int) 45<|sE [(44,.bool false)] fun a b=>tK<|cF 44 b ?_
    refine cN<|bK<|tK<|rS b<|tA 1 i 1<|sE [(3,nV (i+1))] fun a b=> ?_
    show ∃m',m'<_∧_
    refine⟨_,?_,(i+1),rfl,hh,(by omega),eS,b.to⟩
    omega
   ·have hok:jZ c=true:=by rw[hck];simp<;>omega
    have eS:=ee hall hc hok
    refine rS b<|tX 1 ((97:Int)≤(c.toNat :Int))<|tX 8 ((48:Int)≤(c.toNat :Int))<|eF 16 (c.toNat :Int) 45<|eT 20 (c.toNat :Int) 46<|sE [(44,.bool false)] fun a b=>tK ?_
    refine cF 44 b<|cN<|bK<|tK<|rS b<|tA 1 i 1<|sE [(3,nV (i+1))] fun a b=> ?_
    show ∃m',m'<_∧_
    refine⟨_,?_,(i+1),rfl,hh,(by omega),eS,b.to⟩
    omega
   ·have hok:jZ c=false:=by rw[hck];simp<;>omega
    have hno:=gU hc hok
    refine rS b<|tT 1 ((97:Int)≤(c.toNat :Int))<|tX 4 ((c.toNat :Int)≤(122:Int))<|tT 8 ((48:Int)≤(c.toNat :Int))<|tX 11 ((c.toNat :Int)≤(57:Int))<|eF 16 (c.toNat :Int) 45<|eF 20 (c.toNat :Int) 46 ?_
    refine sE [(44,.bool true)] fun a b=>tK<|cT 44 b<|qP [(2,.bool false)] b fun a b=>cR (yB (yT (yT (yB (yT ?_)))))
    exact rT 2 (.bool false) b<|⟨congrArg Value.bool hno.symm,hh⟩
   ·have hok:jZ c=false:=by rw[hck];simp<;>omega
    have hno:=gU hc hok
    refine rS b<|tX 1 ((97:Int)≤(c.toNat :Int))<|tT 8 ((48:Int)≤(c.toNat :Int))<|tX 11 ((c.toNat :Int)≤(57:Int))<|eF 16 (c.toNat :Int) 45<|eF 20 (c.toNat :Int) 46<|sE [(44,.bool true)] fun a b=> ?_
    refine tK<|cT 44 b<|qP [(2,.bool false)] b fun a b=>cR (yB (yT (yT (yB (yT ?_)))))
    exact rT 2 (.bool false) b<|⟨congrArg Value.bool hno.symm,hh⟩
   ·have hok:jZ c=false:=by rw[hck];simp<;>omega
    have hno:=gU hc hok
    refine rS b<|tX 1 ((97:Int)≤(c.toNat :Int))<|tX 8 ((48:Int)≤(c.toNat :Int))<|eF 16 (c.toNat :Int) 45<|eF 20 (c.toNat :Int) 46<|sE [(44,.bool true)] fun a b=>tK ?_
    refine cT 44 b<|qP [(2,.bool false)] b fun a b=>cR (yB (yT (yT (yB (yT ?_)))))
    exact rT 2 (.bool false) b<|⟨congrArg Value.bool hno.symm,hh⟩
  ·obtain rfl:i=s.size :=by omega
   rw[←e6,List.take_length] at hall
   refine cX 0 (xT (xT (xB ?_)))
   exact tK<|qP [(2,.bool true)] b fun a b=>cR<|rT 2 (.bool true) b<|⟨congrArg Value.bool (by unfold aM;rw[hall];simp<;>omega),hh⟩
noncomputable def b47:Code:=Tryz.f47.body.getD .skip
theorem rh(h:Heap)(l:List UInt8)(n x:Nat)(va:Option Addr)(vc:Nat)(jG:Own h (.slice va n vc) 5 n 1 (l.map bv))(hn:n≤1099511627000):Sat Tryz.prog 47 #[.slice va n vc,.int .i64 ((x:Nat):Int),.int .i64 2] h fun v h'=>∃ad cap,v= .slice ad (n+1+1) cap∧Own h' (.slice ad (n+1+1) cap) 5 (n+1+1) 1 ((l++[UInt8.ofNat (x/2^8),UInt8.ofNat x]).map bv)∧(ad.map (fun(x:Addr)=>x.block)=va.map (fun(x:Addr)=>x.block)∨∃g,ad.map (fun(x:Addr)=>x.block)=some g∧h.size ≤g)∧Gr (fun k=>va.map (fun(x:Addr)=>x.block)=some k) h h':=by
 have d:=Gr.refl (fun k=>va.map (fun(x:Addr)=>x.block)=some k) h
 have lJ:va.map (fun(x:Addr)=>x.block)=va.map (fun(x:Addr)=>x.block)∨∃g,va.map (fun(x:Addr)=>x.block)=some g∧h.size ≤g:= .inl rfl
 refine ag Tryz.func47 23 fun a b=>qP [] b fun a b=>cS<|qP [(7,.int .i64 1)] b fun a b=>cB 0<|cU 3<|ar.step ?_
 refine cS<|qP [(11,.bool true)] b fun a b=>cT 11 b<|cN<|tK<|cS<|cB 1 ?_
 refine rS b<|t1 4 (.int .i64 ((x/2^8:Nat):Int)) (.int .i64 (Int.fdiv ((x:Nat):Int) (2^8))) (congrArg (Value.int .i64) (bL (x) 8))<|t1 5 (bv (UInt8.ofNat (x/2^8))) (.int .u8 (IntKind.u8.wrap ((x/2^8:Nat):Int))) (bt _)<|tN 6 (.slice (some ⟨h.size,0,none⟩) 1 1) #[bv (UInt8.ofNat (x/2^8))] 5 fun z r s=> ?_
 replace jG:=jG.ext r
 refine tP 7 (n+1) 1 ((l++[UInt8.ofNat (x/2^8)]).map bv) jG (Row.blk (n:=1) (sz:=1) (l:=[UInt8.ofNat (x/2^8)].map bv) s rfl) (aE _) (fun o f t jG u p=> ?_) (ys:=(([UInt8.ofNat (x/2^8)]).map bv))
 replace d:=d.ext r
 have gA:=grown lJ p d.1
 replace d:=d.grew u (FJ lJ)
 replace lJ:=gA;clear gA
 clear s
 refine sE [(0,.slice o (n+1) f)] fun a b=>bK<|tK<|rP [(7,.int .i64 0)] b fun a b=>tK (ar.step ?_)
 refine cS<|qP [(11,.bool true)] b fun a b=>cT 11 b<|cN<|tK<|cS<|cB 1 ?_
 refine rS b<|t1 4 (.int .i64 ((x/2^0:Nat):Int)) (.int .i64 (Int.fdiv ((x:Nat):Int) (2^0))) (congrArg (Value.int .i64) (bL (x) 0))<|t1 5 (bv (UInt8.ofNat (x/2^0))) (.int .u8 (IntKind.u8.wrap ((x/2^0:Nat):Int))) (bt _)<|tN 6 (.slice (some ⟨t.size,0,none⟩) 1 1) #[bv (UInt8.ofNat (x/2^0))] 5 fun w i j=> ?_
 replace jG:=jG.ext i
 refine tP 7 ((n+1)+1) 1 (((l++[UInt8.ofNat (x/2^8)])++[UInt8.ofNat (x/2^0)]).map bv) jG (Row.blk (n:=1) (sz:=1) (l:=[UInt8.ofNat (x/2^0)].map bv) j rfl) (aE _) (fun e c y jG q m=> ?_) (ys:=(([UInt8.ofNat (x/2^0)]).map bv))
 replace d:=d.ext i
 have gA:=grown lJ m d.1
 replace d:=d.grew q (FJ lJ)
 replace lJ:=gA;clear gA
 clear j
 refine sE [(0,.slice e ((n+1)+1) c)] fun a b=>bK<|tK<|rP [(7,.int .i64 (-1))] b fun a b=>tK (ar.step ?_)
 refine cS<|qP [(11,.bool false)] b fun a b=>cF 11 b<|cX 0 (xT (xT (xB ?_)))
 exact tK<|qP [(6,.slice e ((n+1)+1) c)] b fun a b=>cR<|rT 6 (.slice e ((n+1)+1) c) b<|⟨_,_,rfl,by simpa only[Nat.pow_zero,Nat.div_one,List.append_assoc,List.singleton_append] using jG,lJ,d⟩
theorem dS(h:Heap)(s:ByteArray)(hs:aM s=true):Sat Tryz.prog 27 #[.string s] h fun v h'=>v= .bool true∧h'=h:=hs▸nm h s (by have:=gV hs;omega)
theorem lK(h:Heap)(s:ByteArray)(hz:s.size ≤9223372036854775807)(hs:aM s=false):Sat Tryz.prog 27 #[.string s] h fun v h'=>v= .bool false∧h'=h:=hs▸nm h s hz
noncomputable def b28:Code:=Tryz.f28.body.getD .skip
theorem ri(h:Heap)(s:ByteArray)(n:Nat)(l:List UInt8)(hs:aM s=true)(hn:n≤512)(w4:l.length =32):Sat Tryz.prog 28 #[.string s,.int .i64 ((n:Nat):Int),.agg (l.map bv).toArray] h fun v h'=>∃ad cap,v= .tuple #[.slice ad (dq s n l).length cap,.int .i64 0]∧Own h' (.slice ad (dq s n l).length cap) 5 (dq s n l).length 1 ((dq s n l).map bv)∧(∀k,ad.map (fun(x:Addr)=>x.block)=some k→h.size ≤k)∧Ext h h':=by
 have hsl:=gV hs
 have hsp:=pg hs
 have d:=Ext.refl h
 have c:Sep h.size h.size []:=Sep.nil _ _
 refine ag Tryz.func28 33 fun a i=>qS i<|tN 0 (pV h.size) ((l.map bv).toArray) 39 fun C K p=> ?_
 replace c:=c.nw d.size p
 refine sT [(5,pV h.size)] fun a i=>cS<|qS i<|tC 1 (.bool true) (Does.call (f:=27) (args:= #[.string s]) (by kernel_rfl) (dS _ s hs))<|tX 5 (((n:Nat):Int)<(0:Int))<|tX 9 ((512:Int)<((n:Nat):Int))<|sT [(19,.bool false)] fun a i=> ?_
 refine cF 19 i<|cN<|tK<|qS i<|t1 2 (bv (UInt8.ofNat s.size)) (.int .u8 (IntKind.u8.wrap ((s.size :Nat):Int))) (bt _)<|tN 3 (.slice (some ⟨C.size,0,none⟩) 1 1) #[bv (UInt8.ofNat s.size)] 5 fun H I D=> ?_
 replace d:=d.ext K
 replace c:=c.nw d.size D
 have b:Own H (.slice (some ⟨C.size,0,none⟩) 1 1) 5 1 1 (([UInt8.ofNat s.size]).map bv):=Own.blk D rfl (by unfold maxLen;decide)
 replace c:Sep h.size H.size [(some ⟨C.size,0,none⟩:Option Addr).map (·.block),some (h.size)]:=c
 replace d:=d.ext I
 replace p:=p.x I
 clear D
 refine tF 5 (Does.bytesOf (el:=5) (s:=s) (by kernel_rfl)) ?_
 rintro _ N ⟨J,rfl,hrs,gs⟩
 replace d:=d.ext gs
 replace b:=b.ext gs
 replace p:=p.x gs
 replace c:=c.up gs.size
 clear gs
 refine tP 6 (1+s.size) 1 (([UInt8.ofNat s.size]++s.data.toList).map bv) b hrs (aE _) (fun E t L b u q=> ?_)
 have z:=c
 replace c:=c.sa u 0 q b d.size;clear q
 refine sT [(8,.slice E (1+s.size) t)] fun a i=>qS i<|tG 2 (rh _ ([UInt8.ofNat s.size]++s.data.toList) (1+s.size) n _ _ b (by omega)) ?_
 rintro _ F ⟨j,w,rfl,m,hbx,gx⟩
 replace d:=d.grew u (z.l 0)
 replace p:=p.y u (z.bp 1 0)
 have A:=d.size
 replace d:=Gr.dj d gx (c.low 0 rfl)
 replace p:=gx.blk p (fun e=>(c.bp 1 0) e.symm)
 replace c:Sep h.size F.size [j.map (·.block),some (h.size)]:=c.set gx.1 A 0 (y:=j.map (fun(x:Addr)=>x.block)) rfl (hbx.imp id .inr) (fun k e=>m.lt (by rw[af];exact e))
 clear b;have b:=m;clear m hbx gx A
 refine sT [(8,.slice j (1+s.size +1+1) w)] fun a i=>qS i<|tP 2 (1+s.size +1+1+32) 1 (((([UInt8.ofNat s.size]++s.data.toList)++[UInt8.ofNat (n/2^8),UInt8.ofNat n])++l).map bv) b (hrow w4 p) (aE _) (fun o g M b B r=> ?_)
 have G:=c
 replace c:=c.sa B 0 r b d.size;clear r
 refine sT [(6,.slice o (1+s.size +1+1+32) g),(7,.int .i64 0)] fun a i=>cR<|aI [.tmp 6,.tmp 7] [.slice o (1+s.size +1+1+32) g,.int .i64 0] (.tuple #[.slice o (1+s.size +1+1+32) g,.int .i64 0]) rfl i ⟨rfl,rfl,trivial⟩ rfl ?_
 have hel:=jm s n w4
 rw[show 1+s.size +1+1+32=(dq s n l).length by omega] at b
 replace d:=d.grew B (G.l 0)
 exact⟨_,_,by rw[show 1+s.size +1+1+32=(dq s n l).length by omega],b,c.low 0 rfl,d⟩
noncomputable def b99:Code:=Tryz.f99.body.getD .skip
theorem Row.off{h:Heap}{b off n m:Nat}{cs:Array Value}{E:TypeId}{fr:Nat×Nat}{xs:List Value}(m1:h[b]? =some (.cells cs E fr))(hx:(cs.toList.drop off).take n=xs)(hl:xs.length =n)(hn:n≤m):Row h (.slice (some ⟨b,off,none⟩) n m) n 1 xs:=by
 refine⟨by rw[hl,Nat.mul_one],.inr ⟨_,m,rfl,hn,fun j u hu=> ?_⟩⟩
 rw[add_lit,an m1]
 rw[←hx,List.getElem?_take] at hu
 split at hu
 ·rw[List.getElem?_drop] at hu;simpa using hu
 ·cases hu
theorem rj(h:Heap)(l:List UInt8)(n x:Nat)(va:Option Addr)(vc:Nat)(hr:Row h (.slice va n vc) n 1 (l.map bv))(hn:n≤1099511627000):Sat Tryz.prog 99 #[.slice va n vc,.int .u64 ((x:Nat):Int),.int .i64 2] h fun v h'=>∃ad cap,v= .slice ad (n+2) cap∧Own h' (.slice ad (n+2) cap) 5 (n+2) 1 ((l++[UInt8.ofNat (x/2^8),UInt8.ofNat x]).map bv)∧(∀k,ad.map (fun(x:Addr)=>x.block)=some k→h.size ≤k)∧Ext h h':=by
 have g:=Ext.refl h
 have c:Sep h.size h.size []:=Sep.nil _ _
 refine ag Tryz.func99 36 fun a b=>qP [] b fun a b=>qS b<|tG 1 (eR _ l n _ _ (hr.ext g) (by omega)) ?_
 rintro _ A ⟨B,y,rfl,d,C,F⟩
 replace c:=c.co F C d g.size
 refine sT [(7,.slice B n y)] fun a b=>cS<|qP [(17,.bool false)] b fun a b=>cF 17 b<|cN<|tK<|qS b ?_
 refine tN 0 (pV A.size) #[.int .u8 0,.int .u8 0,.int .u8 0,.int .u8 0,.int .u8 0,.int .u8 0,.int .u8 0,.int .u8 0] 177 fun O G e=> ?_
 replace g:=g.ext F
 replace c:=c.nw g.size e
 refine sT [(8,pV A.size)] fun a b=>cS<|qP [(19,.int .i64 0)] b fun a b=>cB 0<|cU 9<|ar.step <|qP [(20,.bool true)] b fun a b=> ?_
 refine cS<|cT 20 b<|cN<|tK<|cS<|cB 1<|qP [(9,.int .i64 0)] b fun a b=> ?_
 refine rS b<|t1 5 (.int .u64 ((x/2^56:Nat):Int)) (.int .u64 (Int.fdiv ((x:Nat):Int) (2^56))) (congrArg (Value.int .u64) (bL (x) 56))<|t1 6 (bv (UInt8.ofNat (x/2^56))) (.int .u8 (IntKind.u8.wrap ((x/2^56:Nat):Int))) (bt _)<|tV 8 0 [bv (UInt8.ofNat (x/2^56))] [bv (UInt8.ofNat (x/2^56)),.int .u8 0,.int .u8 0,.int .u8 0,.int .u8 0,.int .u8 0,.int .u8 0,.int .u8 0] e fun P o f=> ?_
 replace e:=f
 refine sE [] fun a b=>bK<|tK<|rP [(19,.int .i64 1)] b fun a b=>tK (ar.step ?_)
 refine qP [(20,.bool true)] b fun a b=>cS<|cT 20 b<|cN<|tK<|cS<|cB 1 ?_
 refine qP [(9,.int .i64 1)] b fun a b=>rS b<|t1 5 (.int .u64 ((x/2^48:Nat):Int)) (.int .u64 (Int.fdiv ((x:Nat):Int) (2^48))) (congrArg (Value.int .u64) (bL (x) 48))<|t1 6 (bv (UInt8.ofNat (x/2^48))) (.int .u8 (IntKind.u8.wrap ((x/2^48:Nat):Int))) (bt _)<|tV 8 1 [bv (UInt8.ofNat (x/2^48))] [bv (UInt8.ofNat (x/2^56)),bv (UInt8.ofNat (x/2^48)),.int .u8 0,.int .u8 0,.int .u8 0,.int .u8 0,.int .u8 0,.int .u8 0] e fun H p f=> ?_
 replace e:=f
 refine sE [] fun a b=>bK<|tK<|rP [(19,.int .i64 2)] b fun a b=>tK (ar.step ?_)
 refine qP [(20,.bool true)] b fun a b=>cS<|cT 20 b<|cN<|tK<|cS<|cB 1 ?_
 refine qP [(9,.int .i64 2)] b fun a b=>rS b<|t1 5 (.int .u64 ((x/2^40:Nat):Int)) (.int .u64 (Int.fdiv ((x:Nat):Int) (2^40))) (congrArg (Value.int .u64) (bL (x) 40))<|t1 6 (bv (UInt8.ofNat (x/2^40))) (.int .u8 (IntKind.u8.wrap ((x/2^40:Nat):Int))) (bt _)<|tV 8 2 [bv (UInt8.ofNat (x/2^40))] [bv (UInt8.ofNat (x/2^56)),bv (UInt8.ofNat (x/2^48)),bv (UInt8.ofNat (x/2^40)),.int .u8 0,.int .u8 0,.int .u8 0,.int .u8 0,.int .u8 0] e fun I q f=> ?_
 replace e:=f
 refine sE [] fun a b=>bK<|tK<|rP [(19,.int .i64 3)] b fun a b=>tK (ar.step ?_)
 refine qP [(20,.bool true)] b fun a b=>cS<|cT 20 b<|cN<|tK<|cS<|cB 1 ?_
 refine qP [(9,.int .i64 3)] b fun a b=>rS b<|t1 5 (.int .u64 ((x/2^32:Nat):Int)) (.int .u64 (Int.fdiv ((x:Nat):Int) (2^32))) (congrArg (Value.int .u64) (bL (x) 32))<|t1 6 (bv (UInt8.ofNat (x/2^32))) (.int .u8 (IntKind.u8.wrap ((x/2^32:Nat):Int))) (bt _)<|tV 8 3 [bv (UInt8.ofNat (x/2^32))] [bv (UInt8.ofNat (x/2^56)),bv (UInt8.ofNat (x/2^48)),bv (UInt8.ofNat (x/2^40)),bv (UInt8.ofNat (x/2^32)),.int .u8 0,.int .u8 0,.int .u8 0,.int .u8 0] e fun J r f=> ?_
 replace e:=f
 refine sE [] fun a b=>bK<|tK<|rP [(19,.int .i64 4)] b fun a b=>tK (ar.step ?_)
 refine qP [(20,.bool true)] b fun a b=>cS<|cT 20 b<|cN<|tK<|cS<|cB 1 ?_
 refine qP [(9,.int .i64 4)] b fun a b=>rS b<|t1 5 (.int .u64 ((x/2^24:Nat):Int)) (.int .u64 (Int.fdiv ((x:Nat):Int) (2^24))) (congrArg (Value.int .u64) (bL (x) 24))<|t1 6 (bv (UInt8.ofNat (x/2^24))) (.int .u8 (IntKind.u8.wrap ((x/2^24:Nat):Int))) (bt _)<|tV 8 4 [bv (UInt8.ofNat (x/2^24))] [bv (UInt8.ofNat (x/2^56)),bv (UInt8.ofNat (x/2^48)),bv (UInt8.ofNat (x/2^40)),bv (UInt8.ofNat (x/2^32)),bv (UInt8.ofNat (x/2^24)),.int .u8 0,.int .u8 0,.int .u8 0] e fun K s f=> ?_
 replace e:=f
 refine sE [] fun a b=>bK<|tK<|rP [(19,.int .i64 5)] b fun a b=>tK (ar.step ?_)
 refine qP [(20,.bool true)] b fun a b=>cS<|cT 20 b<|cN<|tK<|cS<|cB 1 ?_
 refine qP [(9,.int .i64 5)] b fun a b=>rS b<|t1 5 (.int .u64 ((x/2^16:Nat):Int)) (.int .u64 (Int.fdiv ((x:Nat):Int) (2^16))) (congrArg (Value.int .u64) (bL (x) 16))<|t1 6 (bv (UInt8.ofNat (x/2^16))) (.int .u8 (IntKind.u8.wrap ((x/2^16:Nat):Int))) (bt _)<|tV 8 5 [bv (UInt8.ofNat (x/2^16))] [bv (UInt8.ofNat (x/2^56)),bv (UInt8.ofNat (x/2^48)),bv (UInt8.ofNat (x/2^40)),bv (UInt8.ofNat (x/2^32)),bv (UInt8.ofNat (x/2^24)),bv (UInt8.ofNat (x/2^16)),.int .u8 0,.int .u8 0] e fun L t f=> ?_
 replace e:=f
 refine sE [] fun a b=>bK<|tK<|rP [(19,.int .i64 6)] b fun a b=>tK (ar.step ?_)
 refine qP [(20,.bool true)] b fun a b=>cS<|cT 20 b<|cN<|tK<|cS<|cB 1 ?_
 refine qP [(9,.int .i64 6)] b fun a b=>rS b<|t1 5 (.int .u64 ((x/2^8:Nat):Int)) (.int .u64 (Int.fdiv ((x:Nat):Int) (2^8))) (congrArg (Value.int .u64) (bL (x) 8))<|t1 6 (bv (UInt8.ofNat (x/2^8))) (.int .u8 (IntKind.u8.wrap ((x/2^8:Nat):Int))) (bt _)<|tV 8 6 [bv (UInt8.ofNat (x/2^8))] [bv (UInt8.ofNat (x/2^56)),bv (UInt8.ofNat (x/2^48)),bv (UInt8.ofNat (x/2^40)),bv (UInt8.ofNat (x/2^32)),bv (UInt8.ofNat (x/2^24)),bv (UInt8.ofNat (x/2^16)),bv (UInt8.ofNat (x/2^8)),.int .u8 0] e fun M u f=> ?_
 replace e:=f
 refine sE [] fun a b=>bK<|tK<|rP [(19,.int .i64 7)] b fun a b=>tK (ar.step ?_)
 refine qP [(20,.bool true)] b fun a b=>cS<|cT 20 b<|cN<|tK<|cS<|cB 1 ?_
 refine qP [(9,.int .i64 7)] b fun a b=>rS b<|t1 5 (.int .u64 ((x/2^0:Nat):Int)) (.int .u64 (Int.fdiv ((x:Nat):Int) (2^0))) (congrArg (Value.int .u64) (bL (x) 0))<|t1 6 (bv (UInt8.ofNat (x/2^0))) (.int .u8 (IntKind.u8.wrap ((x/2^0:Nat):Int))) (bt _)<|tV 8 7 [bv (UInt8.ofNat (x/2^0))] [bv (UInt8.ofNat (x/2^56)),bv (UInt8.ofNat (x/2^48)),bv (UInt8.ofNat (x/2^40)),bv (UInt8.ofNat (x/2^32)),bv (UInt8.ofNat (x/2^24)),bv (UInt8.ofNat (x/2^16)),bv (UInt8.ofNat (x/2^8)),bv (UInt8.ofNat (x/2^0))] e fun D w f=> ?_
 replace e:=f
 refine sE [] fun a b=>bK<|tK<|rP [(19,.int .i64 8)] b fun a b=>tK (ar.step ?_)
 refine qP [(20,.bool false)] b fun a b=>cS<|cF 20 b<|cX 0 (xT (xT (xB ?_)))
 refine tK<|qS b ?_
 have hro:Row D (.slice (some ⟨A.size,6,none⟩) 2 2) 2 1 (([UInt8.ofNat (x/2^8),UInt8.ofNat (x/2^0)]:List UInt8).map bv):=Row.off e (by rfl) rfl (Nat.le_refl _)
 replace d:=((((((((d.ext G).k o (c.ap 1 0)).k p (c.ap 1 0)).k q (c.ap 1 0)).k r (c.ap 1 0)).k s (c.ap 1 0)).k t (c.ap 1 0)).k u (c.ap 1 0)).k w (c.ap 1 0)
 refine tP 4 (n+2) 1 ((l++[UInt8.ofNat (x/2^8),UInt8.ofNat (x/2^0)]).map bv) d hro (aE _) (fun j i N d z m=> ?_) (ys:=(([UInt8.ofNat (x/2^8),UInt8.ofNat (x/2^0)]).map bv))
 replace g:=((((((((g.ext G).grew o (c.l 0)).grew p (c.l 0)).grew q (c.l 0)).grew r (c.l 0)).grew s (c.l 0)).grew t (c.l 0)).grew u (c.l 0)).grew w (c.l 0)
 replace c:=(((((((c.up o.size).up p.size).up q.size).up r.size).up s.size).up t.size).up u.size).up w.size
 have E:=c
 replace c:=c.sa z 1 m d g.size;clear m
 refine sT [(6,.slice j (n+2) i)] fun a b=>cR<|rT 6 (.slice j (n+2) i) b ?_
 replace g:=g.grew z (E.l 1)
 exact⟨_,_,rfl,by simpa only[Nat.pow_zero,Nat.div_one] using d,c.low 1 rfl,g⟩
theorem gD(h:Heap)(s:ByteArray)(hs:aM s=true):Sat Tryz.prog 62 #[.string s] h fun v h'=>v= .bool true∧h'=h:=hs▸pL h s (by have:=gV hs;omega)
theorem jH(h:Heap)(s:ByteArray)(hz:s.size ≤9223372036854775807)(hs:aM s=false):Sat Tryz.prog 62 #[.string s] h fun v h'=>v= .bool false∧h'=h:=hs▸pL h s hz
theorem rk(h:Heap)(n m:Nat)(hm:m≤1099511627776)(hn:n≤m):Sat Tryz.prog 98 #[.int .i64 ((n:Nat):Int),.int .i64 ((m:Nat):Int)] h fun v h'=>v= .bool true∧h'=h:=(decide_eq_true hn)▸rf h n m (by omega)
noncomputable def b65:Code:=Tryz.f65.body.getD .skip
theorem uM(h:Heap)(s:ByteArray)(n:Nat)(l:List UInt8)(hs:aM s=true)(hn:n≤512)(w4:l.length =32):Sat Tryz.prog 65 #[.string s,.int .i64 ((n:Nat):Int),.agg (l.map bv).toArray] h fun v h'=>∃ad cap,v= .tuple #[.slice ad (dq s n l).length cap,.int .i64 0]∧Own h' (.slice ad (dq s n l).length cap) 5 (dq s n l).length 1 ((dq s n l).map bv)∧(∀k,ad.map (fun(x:Addr)=>x.block)=some k→h.size ≤k)∧Ext h h':=by
 have hsl:=gV hs
 have hsp:=pg hs
 have d:=Ext.refl h
 have c:Sep h.size h.size []:=Sep.nil _ _
 refine ag Tryz.func65 29 fun a m=>qS m<|tN 0 (pV h.size) ((l.map bv).toArray) 39 fun I J o=> ?_
 replace c:=c.nw d.size o
 refine sT [(5,pV h.size)] fun a m=>cS<|qS m<|tC 1 (.bool true) (Does.call (f:=62) (args:= #[.string s]) (by kernel_rfl) (gD _ s hs))<|tC 5 (.bool true) (Does.call (f:=98) (args:= #[nV n,.int .i64 512]) (by kernel_rfl) (rk _ n 512 (by decide) (by omega)))<|sT [(16,.bool false)] fun a m=>cF 16 m ?_
 refine cN<|tK<|qS m<|t1 2 (bv (UInt8.ofNat s.size)) (.int .u8 (IntKind.u8.wrap ((s.size :Nat):Int))) (bt _)<|tN 3 (.slice (some ⟨I.size,0,none⟩) 1 1) #[bv (UInt8.ofNat s.size)] 5 fun N G H=> ?_
 replace d:=d.ext J
 replace c:=c.nw d.size H
 refine tF 5 (Does.tS (t:=32) (u:=9) (E:=5) (n:=1) (xs:=([UInt8.ofNat s.size]:List UInt8).map bv) (by kernel_rfl) (by kernel_rfl) (by kernel_rfl) (Row.blk H rfl) (by omega) (by omega)) ?_
 rintro _ K ⟨y,z,rfl,rl,hb,g⟩
 replace d:=d.ext G
 have A:=d.size
 have a8:=c
 replace o:=o.x G
 replace d:=d.ext g
 replace o:=o.x g
 replace c:=a8.cons (x:=some y.block) g.size A (fun k e=>by cases e;exact⟨Nat.le_of_eq hb.symm,rl.lt (by rfl)⟩)
 have q:Own K (.slice (some y) (1+s.size) z) 5 (1+s.size) 1 (([UInt8.ofNat s.size]++s.data.toList).map bv):=by rw[List.map_append];exact rl
 clear rl a8 A hb g
 refine t1 7 (.int .u64 ((n:Nat):Int)) (.int .u64 (IntKind.u64.wrap ((n:Nat):Int))) (congrArg (Value.int .u64) (l5 (by omega)))<|tG 8 (rj _ ([UInt8.ofNat s.size]++s.data.toList) (1+s.size) n _ _ q.row (by omega)) ?_
 rintro _ L ⟨B,r,rfl,b,C,w⟩
 replace c:=c.co w C b d.size
 refine sT [(8,.slice B (1+s.size +2) r)] fun a m=>qS m ?_
 replace o:=o.x w
 refine tP 2 (1+s.size +2+32) 1 (((([UInt8.ofNat s.size]++s.data.toList)++[UInt8.ofNat (n/2^8),UInt8.ofNat n])++l).map bv) b (hrow w4 o) (aE _) (fun j i M b D p=> ?_)
 replace d:=d.ext w
 have F:=c
 replace c:=c.sa D 0 p b d.size;clear p
 refine sT [(6,.slice j (1+s.size +2+32) i),(7,.int .i64 0)] fun a m=>cR<|aI [.tmp 6,.tmp 7] [.slice j (1+s.size +2+32) i,.int .i64 0] (.tuple #[.slice j (1+s.size +2+32) i,.int .i64 0]) rfl m ⟨rfl,rfl,trivial⟩ rfl ?_
 have hel:=jm s n w4
 rw[show 1+s.size +2+32=(dq s n l).length by omega] at b
 replace d:=d.grew D (F.l 0)
 exact⟨_,_,by rw[show 1+s.size +2+32=(dq s n l).length by omega],b,c.low 0 rfl,d⟩
noncomputable def b67:Code:=Tryz.f67.body.getD .skip
theorem s0{W:Nat→Prop}(h:Heap)(mb mp:Nat)(M:Md)(L:List bV)(ck:Nat)(ea:Option Addr)(ec:Nat)(es:List Value)(md:bH W h mb mp M L ck ea ec es)(s:ByteArray)(hsz:s.size ≤9223372036854775807)(hok:aM s=false):Sat Tryz.prog 67 #[.pointer (some ⟨mb,0,none⟩),.string s] h fun v h'=>v= .tuple #[.agg (c8 dn (0:Int) false false (.slice none 0 0) (.slice none 0 0)).toArray,.int .i64 210]∧Ext h h':=by
 have hm:=md.hm
 have hp:=md.hp
 have g:=Ext.refl h
 have c:Sep h.size h.size []:=Sep.nil _ _
 refine ag Tryz.func67 27 fun a d=>qS d<|tN 0 (pV h.size) ((c6 (.slice none 0 0)).toArray) 101 fun p u i=> ?_
 replace c:=c.nw g.size i
 refine sT [(4,pV h.size)] fun a d=>cS ?_
 rcases md.find s with⟨hf,hno⟩|⟨A,x,B,o,rfl,hs,hf,ha⟩
 ·refine rS d ?_
  replace g:=g.ext u
  refine tO 3 0 (g.blk hm)<|tC 5 (.tuple #[.agg (c6 (.slice none 0 0)).toArray,.bool false]) (nX (t:=81) 9 101 (by kernel_rfl) (by kernel_rfl) (by kernel_rfl) (.agg (c6 (.slice none 0 0)).toArray) (by kernel_rfl) (g.blk hp) hno)<|tN 9 (pV p.size) ((c6 (.slice none 0 0)).toArray) 101 fun G w z=> ?_
  replace c:=c.nw g.size z
  refine bA 10 (c6 (.slice none 0 0)) z fun H C j=>sE [(6,pV p.size),(7,.bool false)] fun a d=>tK<|cS<|cB 0<|qS d<|tC 1 (.bool false) (Does.call (f:=62) (args:= #[.string s]) (by kernel_rfl) (jH _ s hsz hok)) ?_
  refine sT [(17,.bool true)] fun a d=>cT 17 d<|qS d ?_
  replace i:=(i.x w).y C (c.bp 1 0)
  refine bA 1 (c6 (.slice none 0 0)) i fun I q j=> ?_
  replace i:=j
  refine sT [(5,.int .i64 210)] fun a d=>cR (yB (yT ?_))
  refine aI [.cell 4 101,.tmp 5] [.agg (c6 (.slice none 0 0)).toArray,.int .i64 210] (.tuple #[.agg (c6 (.slice none 0 0)).toArray,.int .i64 210]) rfl d ⟨⟨_,rfl,Loads.blk (vs:=c6 (.slice none 0 0)) (by kernel_rfl) i rfl⟩,rfl,trivial⟩ rfl ?_
  replace g:=((g.ext w).grew C (c.l 0)).grew q (c.l 1)
  exact⟨rfl,g⟩
 ·obtain⟨hid,hdl,ca,cc,ba,bc,hv,r1,r2⟩:=ha
  refine rS d ?_
  replace g:=g.ext u
  refine tO 3 0 (g.blk hm)<|tC 5 (.tuple #[.agg (c8 o.b o.e o.ho o.go (.slice ca 0 cc) (.slice ba o.dt.length bc)).toArray,.bool true]) (gW (t:=81) 9 101 (by kernel_rfl) (by kernel_rfl) (by kernel_rfl) (.agg (c6 (.slice none 0 0)).toArray) (by kernel_rfl) (g.blk hp) (List.mem_append_right _ (List.mem_cons_self ..)) hs md.nd hv)<|tN 9 (pV p.size) ((c6 (.slice none 0 0)).toArray) 101 fun D k m=> ?_
  replace c:=c.nw g.size m
  refine bA 10 (c8 o.b o.e o.ho o.go (.slice ca 0 cc) (.slice ba o.dt.length bc)) m fun E n j=>sE [(6,pV p.size),(7,.bool true)] fun a d=>tK<|cS<|cB 0<|qS d<|tC 1 (.bool false) (Does.call (f:=62) (args:= #[.string s]) (by kernel_rfl) (jH _ s hsz hok)) ?_
  refine sT [(17,.bool true)] fun a d=>cT 17 d<|qS d ?_
  replace i:=(i.x k).y n (c.bp 1 0)
  refine bA 1 (c6 (.slice none 0 0)) i fun F r j=> ?_
  replace i:=j
  refine sT [(5,.int .i64 210)] fun a d=>cR (yB (yT ?_))
  refine aI [.cell 4 101,.tmp 5] [.agg (c6 (.slice none 0 0)).toArray,.int .i64 210] (.tuple #[.agg (c6 (.slice none 0 0)).toArray,.int .i64 210]) rfl d ⟨⟨_,rfl,Loads.blk (vs:=c6 (.slice none 0 0)) (by kernel_rfl) i rfl⟩,rfl,trivial⟩ rfl ?_
  replace g:=((g.ext k).grew n (c.l 0)).grew r (c.l 1)
  exact⟨rfl,g⟩
theorem nq{W:Nat→Prop}(h:Heap)(mb mp:Nat)(M:Md)(L:List bV)(ck:Nat)(ea:Option Addr)(ec:Nat)(es:List Value)(md:bH W h mb mp M L ck ea ec es)(s:ByteArray)(hno:∀x∈L,x.1 ≠s)(hok:aM s=true):Sat Tryz.prog 67 #[.pointer (some ⟨mb,0,none⟩),.string s] h fun v h'=>v= .tuple #[.agg (c8 dn (0:Int) false false (.slice none 0 0) (.slice none 0 0)).toArray,.int .i64 211]∧Ext h h':=by
 have hm:=md.hm
 have hp:=md.hp
 have d:=Ext.refl h
 have b:Sep h.size h.size []:=Sep.nil _ _
 refine ag Tryz.func67 27 fun a c=>qS c<|tN 0 (pV h.size) ((c6 (.slice none 0 0)).toArray) 101 fun i o e=> ?_
 replace b:=b.nw d.size e
 refine sT [(4,pV h.size)] fun a c=>qS c ?_
 replace d:=d.ext o
 refine tO 3 0 (d.blk hm)<|tC 5 (.tuple #[.agg (c6 (.slice none 0 0)).toArray,.bool false]) (nX (t:=81) 9 101 (by kernel_rfl) (by kernel_rfl) (by kernel_rfl) (.agg (c6 (.slice none 0 0)).toArray) (by kernel_rfl) (d.blk hp) hno)<|tN 9 (pV i.size) ((c6 (.slice none 0 0)).toArray) 101 fun p j k=> ?_
 replace b:=b.nw d.size k
 refine bA 10 (c6 (.slice none 0 0)) k fun q m n=>sT [(6,pV i.size),(7,.bool false)] fun a c=>cS<|cB 0<|qS c<|tC 1 (.bool true) (Does.call (f:=62) (args:= #[.string s]) (by kernel_rfl) (gD _ s hok))<|sT [(17,.bool false)] fun a c=> ?_
 refine cF 17 c<|qP [(22,.bool true)] c fun a c=>cT 22 c<|qS c ?_
 replace e:=(e.x j).y m (b.bp 1 0)
 refine bA 1 (c6 (.slice none 0 0)) e fun r g n=> ?_
 replace e:=n
 refine sT [(5,.int .i64 211)] fun a c=>cR (yB (yT ?_))
 refine aI [.cell 4 101,.tmp 5] [.agg (c6 (.slice none 0 0)).toArray,.int .i64 211] (.tuple #[.agg (c6 (.slice none 0 0)).toArray,.int .i64 211]) rfl c ⟨⟨_,rfl,Loads.blk (vs:=c6 (.slice none 0 0)) (by kernel_rfl) e rfl⟩,rfl,trivial⟩ rfl ?_
 replace d:=((d.ext j).grew m (b.l 0)).grew g (b.l 1)
 exact⟨rfl,d⟩
theorem pM{W:Nat→Prop}(h:Heap)(mb mp:Nat)(M:Md)(L:List bV)(ck:Nat)(ea:Option Addr)(ec:Nat)(es:List Value)(md:bH W h mb mp M L ck ea ec es)(s:ByteArray)(x:bV)(hx:x∈L)(hs:x.1 =s)(o:Ob)(ca:Option Addr)(cc:Nat)(ba:Option Addr)(bc:Nat)(hv:x.2.1 =EN o (.slice ca 0 cc) (.slice ba o.dt.length bc))(hok:aM s=true):Sat Tryz.prog 67 #[.pointer (some ⟨mb,0,none⟩),.string s] h fun v h'=>v= .tuple #[.agg (c8 o.b o.e o.ho o.go (.slice ca 0 cc) (.slice ba o.dt.length bc)).toArray,.int .i64 0]∧Ext h h':=by
 have hm:=md.hm
 have hp:=md.hp
 have g:=Ext.refl h
 have c:Sep h.size h.size []:=Sep.nil _ _
 refine ag Tryz.func67 27 fun a d=>qS d<|tN 0 (pV h.size) ((c6 (.slice none 0 0)).toArray) 101 fun n r i=> ?_
 replace c:=c.nw g.size i
 refine sT [(4,pV h.size)] fun a d=>qS d ?_
 replace g:=g.ext r
 refine tO 3 0 (g.blk hm)<|tC 5 (.tuple #[.agg (c8 o.b o.e o.ho o.go (.slice ca 0 cc) (.slice ba o.dt.length bc)).toArray,.bool true]) (gW (t:=81) 9 101 (by kernel_rfl) (by kernel_rfl) (by kernel_rfl) (.agg (c6 (.slice none 0 0)).toArray) (by kernel_rfl) (g.blk hp) hx hs md.nd hv)<|tN 9 (pV n.size) ((c6 (.slice none 0 0)).toArray) 101 fun u p j=> ?_
 replace c:=c.nw g.size j
 refine bA 10 (c8 o.b o.e o.ho o.go (.slice ca 0 cc) (.slice ba o.dt.length bc)) j fun w q k=> ?_
 replace j:=k
 refine sT [(6,pV n.size),(7,.bool true)] fun a d=>cS<|cB 0<|qS d<|tC 1 (.bool true) (Does.call (f:=62) (args:= #[.string s]) (by kernel_rfl) (gD _ s hok))<|sT [(17,.bool false)] fun a d=>cF 17 d ?_
 refine qP [(22,.bool false)] d fun a d=>cF 22 d<|cN<|bK<|tK<|qS d<|tR 0 j ?_
 replace i:=(i.x p).y q (c.bp 1 0)
 refine bA 1 (c8 o.b o.e o.ho o.go (.slice ca 0 cc) (.slice ba o.dt.length bc)) i fun z m k=> ?_
 replace i:=k
 refine sT [(5,.int .i64 0)] fun a d=>cR<|aI [.cell 4 101,.tmp 5] [.agg (c8 o.b o.e o.ho o.go (.slice ca 0 cc) (.slice ba o.dt.length bc)).toArray,.int .i64 0] (.tuple #[.agg (c8 o.b o.e o.ho o.go (.slice ca 0 cc) (.slice ba o.dt.length bc)).toArray,.int .i64 0]) rfl d ⟨⟨_,rfl,Loads.blk (vs:=c8 o.b o.e o.ho o.go (.slice ca 0 cc) (.slice ba o.dt.length bc)) (by kernel_rfl) i rfl⟩,rfl,trivial⟩ rfl ?_
 replace g:=((g.ext p).grew q (c.l 0)).grew m (c.l 1)
 exact⟨rfl,g⟩
noncomputable def b33:Code:=Tryz.f33.body.getD .skip
theorem s3(g k:Bool)(t e:Int):g=true∨(g=false∧k=true)∨(g=false∧k=false∧t<e)∨(g=false∧k=false∧e≤t):=by cases g<;>cases k<;>simp<;>omega
set_option maxHeartbeats 1000000 in
theorem iL{W:Nat→Prop}(h:Heap)(mb mp:Nat)(M:Md)(L:List bV)(ck:Nat)(ea:Option Addr)(ec:Nat)(es:List Value)(md:bH W h mb mp M L ck ea ec es)(kd n:Int)(s:ByteArray)(oa:Option Addr)(on oc:Nat)(ka:Option Addr)(kn kc:Nat)(hsz:s.size ≤9223372036854775807):Sat Tryz.prog 33 #[.pointer (some ⟨mb,0,none⟩),.agg #[.int .i64 kd,.string s,.slice oa on oc,.int .i64 n,.slice ka kn kc]] h fun v h'=>v= .int .i64 (ff M kd n s).2 ∧eD W h' mb mp (ff M kd n s).1 ∧MG mb mp h h':=by
 have hm:=md.hm
 have hp:=md.hp
 have c:=Ext.refl h
 have d:Sep h.size h.size []:=Sep.nil _ _
 refine ag Tryz.func33 80 fun a b=>qS b<|tN 0 (pV h.size) #[.int .i64 kd,.string s,.slice oa on oc,.int .i64 n,.slice ka kn kc] 35 fun h1 U f=> ?_
 replace d:=d.nw c.size f
 refine sT [(3,pV h.size)] fun a b=>cS ?_
 rcases md.j0 s with hok|⟨hok,hf,hno⟩|⟨hok,A,x,B,o,rfl,hs,hf,hid,hdl,ca,cc,ba,bc,hv,r1,r2⟩
 ·refine rS b<|tO 2 1 f ?_
  replace c:=c.ext U
  refine tG 3 (s0 _ mb mp M _ ck ea ec es (md.ext c) s hsz hok) ?_
  rintro _ h5 ⟨rfl,g4⟩
  refine tN 7 (pV h5.size) ((c6 (.slice none 0 0)).toArray) 101 fun h6 g7 m8=> ?_
  replace c:=c.ext g4
  replace d:=(d.up g4.size).nw c.size m8
  refine bA 8 (c6 (.slice none 0 0)) m8 fun h9 V C=>sE [(5,pV h5.size),(6,.int .i64 210)] fun a b=>tK<|cS<|cS ?_
  ·refine rP [(30,.bool false)] b fun a b=>tK<|cF 30 b<|cN<|tK<|cS<|qP [(32,.bool true)] b fun a b=> ?_
   refine cT 32 b<|qP [(4,.int .i64 210)] b fun a b=>cR (yT ?_)
   refine rT 4 (.int .i64 210) b ?_
   replace c:=(c.ext g7).grew V (d.l 0)
   rw[wD hok];exact⟨rfl,⟨_,_,_,_,_,md.ext c⟩,MG.aK c⟩
 ·refine rS b<|tO 2 1 f ?_
  replace c:=c.ext U
  refine tG 3 (nq _ mb mp M _ ck ea ec es (md.ext c) s hno hok) ?_
  rintro _ I ⟨rfl,F⟩
  refine tN 7 (pV I.size) ((c6 (.slice none 0 0)).toArray) 101 fun h13 r J=> ?_
  replace c:=c.ext F
  replace d:=(d.up F.size).nw c.size J
  refine bA 8 (c6 (.slice none 0 0)) J fun h16 u C=>sE [(5,pV I.size),(6,.int .i64 211)] fun a b=>tK<|cS<|cS ?_
  rcases nW kd n with hk|hk|hk|hk
  ·refine rS b ?_
   replace f:=((f.x F).x r).y u (d.bp 1 0)
   refine tO 4 0 f<|eT 5 kd 4<|tO 9 3 f<|tT 10 (n<(0:Int))<|sE [(30,.bool true)] fun a b=>tK<|cT 30 b ?_
   refine qP [(4,.int .i64 1)] b fun a b=>cR (yT ?_)
   refine rT 4 (.int .i64 1) b ?_
   replace c:=(c.ext r).grew u (d.l 0)
   rw[e7 hok (by omega)];exact⟨rfl,⟨_,_,_,_,_,md.ext c⟩,MG.aK c⟩
  ·refine rS b ?_
   replace f:=((f.x F).x r).y u (d.bp 1 0)
   refine tO 4 0 f<|eT 5 kd 4<|tO 9 3 f<|tX 10 (n<(0:Int))<|tO 13 3 f<|tT 14 ((1099511627776:Int)<n)<|sE [(30,.bool true)] fun a b=> ?_
   refine tK<|cT 30 b<|qP [(4,.int .i64 1)] b fun a b=>cR (yT ?_)
   refine rT 4 (.int .i64 1) b ?_
   replace c:=(c.ext r).grew u (d.l 0)
   rw[e7 hok (by omega)];exact⟨rfl,⟨_,_,_,_,_,md.ext c⟩,MG.aK c⟩
  ·refine rS b ?_
   replace f:=((f.x F).x r).y u (d.bp 1 0)
   refine tO 4 0 f<|eT 5 kd 4<|tO 9 3 f<|tX 10 (n<(0:Int))<|tO 13 3 f<|tX 14 ((1099511627776:Int)<n)<|sE [(30,.bool false)] fun a b=> ?_
   refine tK<|cF 30 b<|cN<|tK<|cS<|qP [(32,.bool true)] b fun a b=>cT 32 b ?_
   refine qP [(4,.int .i64 211)] b fun a b=>cR (yT ?_)
   refine rT 4 (.int .i64 211) b ?_
   replace c:=(c.ext r).grew u (d.l 0)
   rw[jn hok (by omega) hf];exact⟨rfl,⟨_,_,_,_,_,md.ext c⟩,MG.aK c⟩
  ·refine rS b ?_
   replace f:=((f.x F).x r).y u (d.bp 1 0)
   refine tO 4 0 f<|eF 5 kd 4<|sE [(30,.bool false)] fun a b=>tK<|cF 30 b<|cN<|tK ?_
   refine cS<|qP [(32,.bool true)] b fun a b=>cT 32 b<|qP [(4,.int .i64 211)] b fun a b=>cR (yT ?_)
   refine rT 4 (.int .i64 211) b ?_
   replace c:=(c.ext r).grew u (d.l 0)
   rw[jn hok (by omega) hf];exact⟨rfl,⟨_,_,_,_,_,md.ext c⟩,MG.aK c⟩
 ·obtain⟨ob,oe,oh,og,od⟩:=o
  refine rS b<|tO 2 1 f ?_
  replace c:=c.ext U
  refine tG 3 (pM _ mb mp M _ ck ea ec es (md.ext c) s x (List.mem_append_right _ (List.mem_cons_self ..)) hs ⟨ob,oe,oh,og,od⟩ ca cc ba bc hv hok) ?_
  rintro _ m ⟨rfl,G⟩
  refine tN 7 (pV m.size) ((c6 (.slice none 0 0)).toArray) 101 fun h20 j e=> ?_
  replace c:=c.ext G
  replace d:=(d.up G.size).nw c.size e
  refine bA 8 (c8 ob oe oh og (.slice ca 0 cc) (.slice ba od.length bc)) e fun h23 i C=> ?_
  replace e:=C
  refine sE [(5,pV m.size),(6,.int .i64 0)] fun a b=>tK<|cS<|cS ?_
  rcases nW kd n with hk|hk|hk|hk
  ·refine rS b ?_
   replace f:=((f.x G).x j).y i (d.bp 1 0)
   refine tO 4 0 f<|eT 5 kd 4<|tO 9 3 f<|tT 10 (n<(0:Int))<|sE [(30,.bool true)] fun a b=>tK<|cT 30 b ?_
   refine qP [(4,.int .i64 1)] b fun a b=>cR (yT ?_)
   refine rT 4 (.int .i64 1) b ?_
   replace c:=(c.ext j).grew i (d.l 0)
   rw[e7 hok (by omega)];exact⟨rfl,⟨_,_,_,_,_,md.ext c⟩,MG.aK c⟩
  ·refine rS b ?_
   replace f:=((f.x G).x j).y i (d.bp 1 0)
   refine tO 4 0 f<|eT 5 kd 4<|tO 9 3 f<|tX 10 (n<(0:Int))<|tO 13 3 f<|tT 14 ((1099511627776:Int)<n)<|sE [(30,.bool true)] fun a b=> ?_
   refine tK<|cT 30 b<|qP [(4,.int .i64 1)] b fun a b=>cR (yT ?_)
   refine rT 4 (.int .i64 1) b ?_
   replace c:=(c.ext j).grew i (d.l 0)
   rw[e7 hok (by omega)];exact⟨rfl,⟨_,_,_,_,_,md.ext c⟩,MG.aK c⟩
  ·refine rS b ?_
   replace f:=((f.x G).x j).y i (d.bp 1 0)
   refine tO 4 0 f<|eT 5 kd 4<|tO 9 3 f<|tX 10 (n<(0:Int))<|tO 13 3 f<|tX 14 ((1099511627776:Int)<n)<|sE [(30,.bool false)] fun a b=> ?_
   refine tK<|cF 30 b<|cN<|tK<|cS<|qP [(32,.bool false)] b fun a b=>cF 32 b ?_
   refine cN<|tK<|cS<|qS b<|tO 1 0 f<|sT [(35,.int .i64 kd)] fun a b=>cB 0 ?_
   refine qS b<|eT 0 kd 4<|sT [(47,.bool true)] fun a b=>cT 47 b ?_
   cases og
   ·refine rS b<|tQ 1 0 (rc ob oe oh false (.slice ca 0 cc)) e<|tO 3 3 f<|tG 4 (Ar _ ob oe oh [] ca cc (r1.zero rfl) (by decide) n (by omega) (by omega)) ?_
    rintro _ h27 ⟨_,rfl,D,p,rfl,w,hge,g⟩
    replace c:=(c.ext j).grew i (d.l 0)
    replace d:=d.up i.size
    replace c:=c.ext g
    replace f:=f.x g
    replace e:=e.x g
    replace d:=d.up g.size
    clear hge g;have hrc:=w.row;clear w
    refine tV 9 0 (rc ob (max oe n) oh false (.slice D 0 p)) (c8 ob (max oe n) oh false (.slice D 0 p) (.slice ba od.length bc)) e fun h28 K C=> ?_
    replace e:=C
    refine sE [(6,.int .i64 0)] fun a b=>bK<|tK<|cS<|qP [(71,.bool true)] b fun a b=>cT 71 b<|cD [0,1,3,7,0,16,0,127] 13 mixed b ?_
    refine mP 7 [0,1,2] [pV mb,pV mb,pV mb] ?_
    replace c:=c.grew K (d.l 0)
    refine mO 15 8 3 0 (.map (some mp)) (c.blk hm)<|mP 31 [4] [.pointer (some ⟨h.size,1,none⟩)] ?_
    replace f:=f.y K (d.bp 1 0)
    refine mO 63 40 5 1 (.string s) f<|mR 127 104 6 e ?_
    have hpo:=c.blk hp
    refine iO 255 255 7 (Does.qI (t:=81) (k:=9) (el:=101) (v:= .agg (c8 ob (max oe n) oh false (.slice D 0 p) (.slice ba od.length bc)).toArray) (by kernel_rfl) (by kernel_rfl) (by kernel_rfl) hpo hs md.nd) ?_
    rintro _ X ⟨rfl,hh⟩
    have gp:=bC hh
    have hpn:=fo hh hpo
    refine mE [] fun a b=>tK<|qP [(4,.int .i64 0)] b fun a b=>cR<|rT 4 (.int .i64 0) b ?_
    have w5:=md.ext c
    have hob:fD W X s (.agg (c8 ob (max oe n) oh false (.slice D 0 p) (.slice ba od.length bc)).toArray) ⟨ob,(max oe n),oh,false,od⟩:=⟨hid,hdl,_,_,_,_,rfl,hrc.zero rfl,(r2.ext c).mg (MG.zS gp) w5.hm w5.hp⟩
    subst hs
    rw[j1 hok (by omega) hf (o':=⟨ob,(max oe n),oh,false,od⟩) (by first|exact eH hk.1 |exact eI hk5|exact fl hk hk5 ht)]
    exact⟨rfl,⟨_,_,_,_,_,w5.set gp hpn hob⟩,(MG.aK c).trans (MG.zS gp)⟩
   ·refine rS b<|tQ 1 0 (rc ob oe oh true (.slice ca 0 cc)) e<|tO 3 3 f<|tG 4 (uI _ ob oe oh [] ca cc n (by omega) (by omega)) ?_
    rintro _ h32 ⟨rfl,N⟩
    replace e:=e.x N
    refine tV 9 0 (bY) (c6 (.slice ba od.length bc)) e fun zc Y C=>sE [(6,.int .i64 213)] fun a b=>bK<|tK<|cS<|qP [(71,.bool false)] b fun a b=>cF 71 b ?_
    refine cN<|tK<|qP [(4,.int .i64 213)] b fun a b=>cR<|rT 4 (.int .i64 213) b ?_
    replace c:=(((c.ext j).grew i (d.l 0)).ext N).grew Y (d.l 0)
    rw[fc hok (by omega) hf (z:=213) (by first|exact cM|exact cO hk hk5|exact cP hk hk5 ht) (by decide)];exact⟨rfl,⟨_,_,_,_,_,md.ext c⟩,MG.aK c⟩
  ·refine rS b ?_
   replace f:=((f.x G).x j).y i (d.bp 1 0)
   refine tO 4 0 f<|eF 5 kd 4<|sE [(30,.bool false)] fun a b=>tK<|cF 30 b<|cN<|tK ?_
   refine cS<|qP [(32,.bool false)] b fun a b=>cF 32 b<|cN<|tK<|cS<|qS b ?_
   refine tO 1 0 f<|sT [(35,.int .i64 kd)] fun a b=>cB 0<|qS b<|eF 0 kd 4<|sT [(47,.bool false)] fun a b=>cF 47 b ?_
   refine cS ?_
   rcases(by omega:kd=5∨kd≠5) with hk5|hk5
   ·refine rS b<|eT 0 kd 5<|sE [(58,.bool true)] fun a b=>tK<|cT 58 b ?_
    cases og
    ·refine rS b<|tQ 1 0 (rc ob oe oh false (.slice ca 0 cc)) e<|tO 3 3 f<|tG 5 (As _ ob oe oh [] ca cc (r1.zero rfl) (by decide) (decide (n=(1:Int)))) ?_
     rintro _ h37 ⟨_,rfl,E,q,rfl,w,hge,g⟩
     replace c:=(c.ext j).grew i (d.l 0)
     replace d:=d.up i.size
     replace c:=c.ext g
     replace f:=f.x g
     replace e:=e.x g
     replace d:=d.up g.size
     clear hge g;have hrc:=w.row;clear w
     refine tV 10 0 (rc ob oe (decide (n=(1:Int))) false (.slice E 0 q)) (c8 ob oe (decide (n=(1:Int))) false (.slice E 0 q) (.slice ba od.length bc)) e fun h38 O C=> ?_
     replace e:=C
     refine sE [(6,.int .i64 0)] fun a b=>bK<|tK<|cS<|qP [(71,.bool true)] b fun a b=>cT 71 b<|cD [0,1,3,7,0,16,0,127] 13 mixed b ?_
     refine mP 7 [0,1,2] [pV mb,pV mb,pV mb] ?_
     replace c:=c.grew O (d.l 0)
     refine mO 15 8 3 0 (.map (some mp)) (c.blk hm)<|mP 31 [4] [.pointer (some ⟨h.size,1,none⟩)] ?_
     replace f:=f.y O (d.bp 1 0)
     refine mO 63 40 5 1 (.string s) f<|mR 127 104 6 e ?_
     have hpo:=c.blk hp
     refine iO 255 255 7 (Does.qI (t:=81) (k:=9) (el:=101) (v:= .agg (c8 ob oe (decide (n=(1:Int))) false (.slice E 0 q) (.slice ba od.length bc)).toArray) (by kernel_rfl) (by kernel_rfl) (by kernel_rfl) hpo hs md.nd) ?_
     rintro _ Z ⟨rfl,hh⟩
     have gp:=bC hh
     have hpn:=fo hh hpo
     refine mE [] fun a b=>tK<|qP [(4,.int .i64 0)] b fun a b=>cR<|rT 4 (.int .i64 0) b ?_
     have w5:=md.ext c
     have hob:fD W Z s (.agg (c8 ob oe (decide (n=(1:Int))) false (.slice E 0 q) (.slice ba od.length bc)).toArray) ⟨ob,oe,(decide (n=(1:Int))),false,od⟩:=⟨hid,hdl,_,_,_,_,rfl,hrc.zero rfl,(r2.ext c).mg (MG.zS gp) w5.hm w5.hp⟩
     subst hs
     rw[j1 hok (by omega) hf (o':=⟨ob,oe,(decide (n=(1:Int))),false,od⟩) (by first|exact eH hk.1 |exact eI hk5|exact fl hk hk5 ht)]
     exact⟨rfl,⟨_,_,_,_,_,w5.set gp hpn hob⟩,(MG.aK c).trans (MG.zS gp)⟩
    ·refine rS b<|tQ 1 0 (rc ob oe oh true (.slice ca 0 cc)) e<|tO 3 3 f<|tG 5 (uJ _ ob oe oh [] ca cc (decide (n=(1:Int)))) ?_
     rintro _ h42 ⟨rfl,P⟩
     replace e:=e.x P
     refine tV 10 0 (bY) (c6 (.slice ba od.length bc)) e fun h43 M9 C=>sE [(6,.int .i64 213)] fun a b=>bK<|tK<|cS<|qP [(71,.bool false)] b fun a b=>cF 71 b ?_
     refine cN<|tK<|qP [(4,.int .i64 213)] b fun a b=>cR<|rT 4 (.int .i64 213) b ?_
     replace c:=(((c.ext j).grew i (d.l 0)).ext P).grew M9 (d.l 0)
     rw[fc hok (by omega) hf (z:=213) (by first|exact cM|exact cO hk hk5|exact cP hk hk5 ht) (by decide)];exact⟨rfl,⟨_,_,_,_,_,md.ext c⟩,MG.aK c⟩
   ·refine rS b<|eF 0 kd 5<|sE [(58,.bool false)] fun a b=>tK<|cF 58 b ?_
    rcases s3 og oh M.t oe with rfl|⟨rfl,rfl⟩|⟨rfl,rfl,ht⟩|⟨rfl,rfl,ht⟩
    ·refine cD [0,1,0,4,12,28,63,127,255,255,511,1535,4095] 7 mixed b<|mP 1 [0] [pV m.size]<|mQ 3 2 1 0 (rc ob oe oh true (.slice ca 0 cc)) e<|mP 31 [2,3,4] [pV mb,pV mb,.pointer (some ⟨mb,2,none⟩)] ?_
     replace c:=(c.ext j).grew i (d.l 0)
     refine mO 63 34 5 2 (.int .i64 M.t) (c.blk hm)<|fZ 127 127 6 (pI _ ob oe oh [] ca cc M.t) ?_
     rintro _ h46 ⟨rfl,Q⟩
     refine mP 2047 [7,8,9,10] [.tuple #[.agg (bY).toArray,.int .i64 213],.agg (bY).toArray,.int .i64 213,pV m.size] ?_
     replace e:=e.x Q
     refine mV 4095 3583 11 0 (bY) (c6 (.slice ba od.length bc)) e fun h47 g48 C=>mP 8191 [12] [.int .i64 213]<|mE [(6,.int .i64 213)] fun a b=>bK<|tK<|cS<|qP [(71,.bool false)] b fun a b=> ?_
     refine cF 71 b<|cN<|tK<|qP [(4,.int .i64 213)] b fun a b=>cR<|rT 4 (.int .i64 213) b ?_
     replace c:=(c.ext Q).grew g48 (d.l 0)
     rw[fc hok (by omega) hf (z:=213) (by first|exact cM|exact cO hk hk5|exact cP hk hk5 ht) (by decide)];exact⟨rfl,⟨_,_,_,_,_,md.ext c⟩,MG.aK c⟩
    ·refine cD [0,1,0,4,12,28,63,127,255,255,511,1535,4095] 7 mixed b<|mP 1 [0] [pV m.size]<|mQ 3 2 1 0 (rc ob oe true false (.slice ca 0 cc)) e<|mP 31 [2,3,4] [pV mb,pV mb,.pointer (some ⟨mb,2,none⟩)] ?_
     replace c:=(c.ext j).grew i (d.l 0)
     refine mO 63 34 5 2 (.int .i64 M.t) (c.blk hm)<|fZ 127 127 6 (pJ _ ob oe [] ca cc M.t) ?_
     rintro _ h50 ⟨rfl,R⟩
     refine mP 2047 [7,8,9,10] [.tuple #[.agg (bY).toArray,.int .i64 214],.agg (bY).toArray,.int .i64 214,pV m.size] ?_
     replace e:=e.x R
     refine mV 4095 3583 11 0 (bY) (c6 (.slice ba od.length bc)) e fun y7 Ab C=>mP 8191 [12] [.int .i64 214]<|mE [(6,.int .i64 214)] fun a b=>bK<|tK<|cS<|qP [(71,.bool false)] b fun a b=> ?_
     refine cF 71 b<|cN<|tK<|qP [(4,.int .i64 214)] b fun a b=>cR<|rT 4 (.int .i64 214) b ?_
     replace c:=(c.ext R).grew Ab (d.l 0)
     rw[fc hok (by omega) hf (z:=214) (by first|exact cM|exact cO hk hk5|exact cP hk hk5 ht) (by decide)];exact⟨rfl,⟨_,_,_,_,_,md.ext c⟩,MG.aK c⟩
    ·refine cD [0,1,0,4,12,28,63,127,255,255,511,1535,4095] 7 mixed b<|mP 1 [0] [pV m.size]<|mQ 3 2 1 0 (rc ob oe false false (.slice ca 0 cc)) e<|mP 31 [2,3,4] [pV mb,pV mb,.pointer (some ⟨mb,2,none⟩)] ?_
     replace c:=(c.ext j).grew i (d.l 0)
     refine mO 63 34 5 2 (.int .i64 M.t) (c.blk hm)<|fZ 127 127 6 (pK _ ob oe [] ca cc M.t ht) ?_
     rintro _ Co ⟨rfl,S⟩
     refine mP 2047 [7,8,9,10] [.tuple #[.agg (bY).toArray,.int .i64 214],.agg (bY).toArray,.int .i64 214,pV m.size] ?_
     replace e:=e.x S
     refine mV 4095 3583 11 0 (bY) (c6 (.slice ba od.length bc)) e fun Da sO C=>mP 8191 [12] [.int .i64 214]<|mE [(6,.int .i64 214)] fun a b=>bK<|tK<|cS<|qP [(71,.bool false)] b fun a b=> ?_
     refine cF 71 b<|cN<|tK<|qP [(4,.int .i64 214)] b fun a b=>cR<|rT 4 (.int .i64 214) b ?_
     replace c:=(c.ext S).grew sO (d.l 0)
     rw[fc hok (by omega) hf (z:=214) (by first|exact cM|exact cO hk hk5|exact cP hk hk5 ht) (by decide)];exact⟨rfl,⟨_,_,_,_,_,md.ext c⟩,MG.aK c⟩
    ·refine cD [0,1,0,4,12,28,63,127,255,255,511,1535,4095] 7 mixed b<|mP 1 [0] [pV m.size]<|mQ 3 2 1 0 (rc ob oe false false (.slice ca 0 cc)) e<|mP 31 [2,3,4] [pV mb,pV mb,.pointer (some ⟨mb,2,none⟩)] ?_
     replace c:=(c.ext j).grew i (d.l 0)
     refine mO 63 34 5 2 (.int .i64 M.t) (c.blk hm)<|fZ 127 127 6 (wY _ ob oe [] ca cc (r1.zero rfl) (by decide) M.t ht) ?_
     rintro _ Bw ⟨rfl,H⟩
     refine mP 2047 [7,8,9,10] [.tuple #[.agg (rc ob oe false true (.slice none 0 0)).toArray,.int .i64 0],.agg (rc ob oe false true (.slice none 0 0)).toArray,.int .i64 0,pV m.size] ?_
     replace e:=e.x H
     refine mV 4095 3583 11 0 (rc ob oe false true (.slice none 0 0)) (c8 ob oe false true (.slice none 0 0) (.slice ba od.length bc)) e fun Hw T C=> ?_
     replace e:=C
     refine mP 8191 [12] [.int .i64 0]<|mE [(6,.int .i64 0)] fun a b=>bK<|tK<|cS<|qP [(71,.bool true)] b fun a b=>cT 71 b ?_
     refine cD [0,1,3,7,0,16,0,127] 13 mixed b<|mP 7 [0,1,2] [pV mb,pV mb,pV mb] ?_
     replace c:=(c.ext H).grew T (d.l 0)
     refine mO 15 8 3 0 (.map (some mp)) (c.blk hm)<|mP 31 [4] [.pointer (some ⟨h.size,1,none⟩)] ?_
     replace f:=(f.x H).y T (d.bp 1 0)
     refine mO 63 40 5 1 (.string s) f<|mR 127 104 6 e ?_
     have hpo:=c.blk hp
     refine iO 255 255 7 (Does.qI (t:=81) (k:=9) (el:=101) (v:= .agg (c8 ob oe false true (.slice none 0 0) (.slice ba od.length bc)).toArray) (by kernel_rfl) (by kernel_rfl) (by kernel_rfl) hpo hs md.nd) ?_
     rintro _ Ja ⟨rfl,hh⟩
     have gp:=bC hh
     have hpn:=fo hh hpo
     refine mE [] fun a b=>tK<|qP [(4,.int .i64 0)] b fun a b=>cR<|rT 4 (.int .i64 0) b ?_
     have w5:=md.ext c
     have hob:fD W Ja s (.agg (c8 ob oe false true (.slice none 0 0) (.slice ba od.length bc)).toArray) ⟨ob,oe,false,true,od⟩:=⟨hid,hdl,_,_,_,_,rfl,(Row.nil h 4).zero rfl,(r2.ext c).mg (MG.zS gp) w5.hm w5.hp⟩
     subst hs
     rw[j1 hok (by omega) hf (o':=⟨ob,oe,false,true,od⟩) (by first|exact eH hk.1 |exact eI hk5|exact fl hk hk5 ht)]
     exact⟨rfl,⟨_,_,_,_,_,w5.set gp hpn hob⟩,(MG.aK c).trans (MG.zS gp)⟩
theorem w6(h:Heap)(b:List UInt8)(va:Option Addr)(vc:Nat)(hr:Row h (.slice va b.length vc) b.length 1 (b.map bv))(hbl:b.length ≤1099511627000)(kt:bl h):Sat Tryz.prog 63 #[.slice va b.length vc] h fun v h'=>v= .agg ((hl (pf (bE b))).map bv).toArray ∧Ext h h':=by
 rw[lA (dQ b)];exact ux h b va vc hr hbl kt
theorem Au(h:Heap)(s:ByteArray)(n:Nat)(l:List UInt8)(y:RB)(hy:hl y=l)(hs:aM s=true)(hn:n≤512):Sat Tryz.prog 65 #[.string s,.int .i64 ((n:Nat):Int),.agg ((hl y).map bv).toArray] h fun v h'=>∃ad cap,v= .tuple #[.slice ad (dq s n l).length cap,.int .i64 0]∧Own h' (.slice ad (dq s n l).length cap) 5 (dq s n l).length 1 ((dq s n l).map bv)∧(∀k,ad.map (fun(x:Addr)=>x.block)=some k→h.size ≤k)∧Ext h h':=by
 subst hy;exact uM h s n (hl y) hs hn rfl
noncomputable def b32:Code:=Tryz.f32.body.getD .skip
theorem Av{h:Heap}{a:Option Addr}{n c sz:Nat}{xs:List Value}(r:Row h (.slice a n c) n sz xs):Row h (.slice a n n) n sz xs:=by
 refine⟨r.1,?_⟩
 rcases r.2 with⟨e,h0⟩|⟨x,cap,e,_,hx⟩
 ·cases e;exact .inl ⟨rfl,rfl⟩
 ·cases e;exact .inr ⟨x,n,rfl,Nat.le_refl _,hx⟩
theorem _root_.Go.aj.Row.w7{h:Heap}{a:Option Addr}{n c sz:Nat}{xs:List Value}(r:Row h (.slice a n c) n sz xs):n≤c:=by
 rcases r.2 with⟨e,h0⟩|⟨x,cap,e,hc,hx⟩
 ·cases e;exact Nat.le_refl _
 ·cases e;exact hc
set_option maxHeartbeats 1000000 in
theorem Aw{W:Nat→Prop}(h:Heap)(mb mp:Nat)(M:Md)(L:List bV)(ck:Nat)(ea:Option Addr)(ec:Nat)(es:List Value)(md:bH W h mb mp M L ck ea ec es)(hW:∀k,W k→k<h.size)(s:ByteArray)(hsz:s.size ≤9223372036854775807)(b:List UInt8)(va:Option Addr)(vc:Nat)(hr:Row h (.slice va b.length vc) b.length 1 (b.map bv))(kt:bl h)(hE:M.E.length ≤1099511627):Sat Tryz.prog 32 #[.pointer (some ⟨mb,0,none⟩),.string s,.slice va b.length vc] h fun v h'=>v= .int .i64 (db M s b).2 ∧eD W h' mb mp (db M s b).1 ∧MG mb mp h h':=by
 have hm:=md.hm
 have hp:=md.hp
 have i:=Ext.refl h
 have V:=kt.lt
 have c:Sep h.size h.size []:=Sep.nil _ _
 refine ag Tryz.func32 76 fun a r=>qP [] r fun a r=>cS ?_
 rcases md.find s with⟨hf,hno⟩|⟨A,x,B,o,rfl,hs,hf,hid,hdl,ca,cc,ba,bc,hv,r1,r2⟩
 ·refine rS r<|tO 3 0 (i.blk hm)<|tC 5 (.tuple #[.agg (c6 (.slice none 0 0)).toArray,.bool false]) (nX (t:=81) 9 101 (by kernel_rfl) (by kernel_rfl) (by kernel_rfl) (.agg (c6 (.slice none 0 0)).toArray) (by kernel_rfl) (i.blk hp) hno)<|tN 9 (pV h.size) ((c6 (.slice none 0 0)).toArray) 101 fun h1 g2 N=> ?_
  replace c:=c.nw i.size N
  refine bA 10 (c6 (.slice none 0 0)) N fun h4 g5 zq=> ?_
  replace N:=zq
  refine sE [(8,.bool false)] fun a r=>tK<|cS<|cB 0<|cS ?_
  rcases Bool.eq_false_or_eq_true (aM s) with hok|hok
  ·refine rS r<|tC 1 (.bool true) (Does.call (f:=62) (args:= #[.string s]) (by kernel_rfl) (gD _ s hok))<|sE [(21,.bool false)] fun a r=>tK<|cF 21 r<|cS ?_
   rcases Nat.lt_or_ge 512 b.length with gE|gE
   ·refine rS r<|tT 2 ((512:Int)<((b.length :Nat):Int))<|sE [(25,.bool true)] fun a r=>tK<|cT 25 r<|qP [(6,.int .i64 5)] r fun a r=>cR (yB (yT ?_))
    refine rT 6 (.int .i64 5) r ?_
    replace i:=(i.ext g2).grew g5 (c.l 0)
    rw[gX hok gE];exact⟨rfl,⟨_,_,_,_,_,md.ext i⟩,MG.aK i⟩
   ·refine rS r<|tX 2 ((512:Int)<((b.length :Nat):Int))<|sE [(25,.bool false)] fun a r=>tK<|cF 25 r<|qP [(29,.bool false)] r fun a r=>cF 29 r ?_
    refine cN<|bK<|tK<|cS<|C.mono (K:=fun e a hJ=>∃(Hx:Nat),∃(P:Option Addr) (F:Nat),e= .normal ∧(Ext h hJ)∧(bl hJ)∧(Own hJ (.slice P b.length F) 5 b.length 1 (b.map bv))∧(hJ[h.size]? =some (.cells (c6 (.slice none 0 0)).toArray 101))∧(hJ[Hx]? =some (.cells (c8 (jN s ((b.length :Nat):Int) (bE b) ((M.E.length :Nat):Int)) 0 false false (.slice none 0 0) (.slice P b.length F)).toArray 101))∧(Sep h.size hJ.size [some Hx,P.map (·.block),some (h.size)])∧Fr a 76 [(0,.pointer (some ⟨mb,0,none⟩)),(1,.string s),(9,.pointer (some ⟨Hx,0,none⟩))]) ?_ ?_
    ·refine cD [0,0,2,0,8,0,32,96,224,480,1023,0,2072,8191,0,32767] 8 mixed r<|mP 239 [0,1,2,3,5,6,7] [.string s,.slice va b.length vc,nV b.length,.slice va b.length vc,pV mb,pV mb,.pointer (some ⟨mb,1,none⟩)] ?_
     replace i:=(i.ext g2).grew g5 (c.l 0)
     refine mO 495 256 8 1 (.slice ea M.E.length ec) (i.blk hm)<|mP 3055 [9,11] [nV M.E.length,.slice va b.length vc]<|aH.oK (is:=[4,14]) (by kernel_rfl) (by simp) ?_
     intro q hq
     simp only[List.mem_cons,List.not_mem_nil,or_false] at hq
     rcases hq with rfl|rfl
     ·replace kt:=(kt.ext g2).grew g5 (c.zero 0 rfl V)
      refine qg 3071 24 4 [8] (Does.call (f:=63) (args:= #[.slice va b.length vc]) (by kernel_rfl) (w6 _ b _ _ (hr.ext i) (by omega) kt)) ?_
      rintro _ h9 ⟨rfl,g8⟩
      replace i:=i.ext g8
      refine⟨?_,?_⟩
      ·intro j hj
       simp only[List.mem_cons,List.not_mem_nil,or_false] at hj
       subst hj
       exact aG (Calm.load (T:=67) (p:=⟨mb,1,none⟩) (by kernel_rfl) (Loads.one (k:=1) (by kernel_rfl) ((an (i.blk hm)).trans rfl)))
      refine mP 4095 [10] [.agg (rc (jN s ((b.length :Nat):Int) (bE b) ((M.E.length :Nat):Int)) 0 false false (.slice none 0 0)).toArray]<|aH.oK (is:=[12,14]) (by kernel_rfl) (by simp) ?_
      intro q hq
      simp only[List.mem_cons,List.not_mem_nil,or_false] at hq
      rcases hq with rfl|rfl
      ·refine qg 8191 6168 12 [8] (Does.call (f:=64) (args:= #[.slice va b.length vc]) (by kernel_rfl) (eR _ b b.length _ _ (hr.ext i) (by omega))) ?_
       rintro _ Q ⟨G,w,rfl,d,Jb,g12⟩
       replace c:=((c.up g5.size).up g8.size).co g12 Jb d i.size
       replace i:=i.ext g12
       refine⟨?_,?_⟩
       ·intro j hj
        simp only[List.mem_cons,List.not_mem_nil,or_false] at hj
        subst hj
        exact aG (Calm.load (T:=67) (p:=⟨mb,1,none⟩) (by kernel_rfl) (Loads.one (k:=1) (by kernel_rfl) ((an (i.blk hm)).trans rfl)))
       refine mP 16383 [13] [.agg (c8 (jN s ((b.length :Nat):Int) (bE b) ((M.E.length :Nat):Int)) 0 false false (.slice none 0 0) (.slice G b.length w)).toArray]<|fT 32767 22552 14 [8] (Does.new (v:= .pointer (some ⟨Q.size,0,none⟩)) (o:= .cells (c6 (.slice none 0 0)).toArray 101) (by kernel_rfl)) ?_
       rintro _ h15 ⟨rfl,hh⟩
       have g16:Ext Q h15:=aY hh
       have m17:h15[Q.size]? =some (.cells (c6 (.slice none 0 0)).toArray 101):=bj hh
       clear hh
       replace c:=c.nw i.size m17
       replace i:=i.ext g16
       refine⟨?_,?_⟩
       ·intro j hj
        simp only[List.mem_cons,List.not_mem_nil,or_false] at hj
        subst hj
        exact aG (Calm.load (T:=67) (p:=⟨mb,1,none⟩) (by kernel_rfl) (Loads.one (k:=1) (by kernel_rfl) ((an (i.blk hm)).trans rfl)))
       refine mV 65535 65535 15 0 (c8 (jN s ((b.length :Nat):Int) (bE b) ((M.E.length :Nat):Int)) 0 false false (.slice none 0 0) (.slice G b.length w)) (c8 (jN s ((b.length :Nat):Int) (bE b) ((M.E.length :Nat):Int)) 0 false false (.slice none 0 0) (.slice G b.length w)) m17 fun h18 X zq=> ?_
       replace m17:=zq
       refine mE [(9,pV Q.size)] fun a r=> ?_
       replace c:=c.up X.size
       have iM:=c.pick (l':=[some Q.size,G.map (·.block),some (h.size)]) [0,1,2] rfl (by decide)
       replace kt:=(((kt.ext g8).ext g12).ext g16).grew X (c.zero 0 rfl V)
       replace N:=(((N.x g8).x g12).x g16).y X (c.bp 2 0)
       replace d:=(d.ext g16).k X (c.ap 1 0)
       replace i:=i.grew X (c.l 0)
       exact⟨Q.size,G,w,rfl,i,kt,d,N,m17,iM,r.to⟩
      ·refine qg 20479 16408 14 [8] (Does.new (v:= .pointer (some ⟨h9.size,0,none⟩)) (o:= .cells (c6 (.slice none 0 0)).toArray 101) (by kernel_rfl)) ?_
       rintro _ h20 ⟨rfl,hh⟩
       have g21:Ext h9 h20:=aY hh
       have R:h20[h9.size]? =some (.cells (c6 (.slice none 0 0)).toArray 101):=bj hh
       clear hh
       replace c:=((c.up g5.size).up g8.size).nw i.size R
       replace i:=i.ext g21
       refine⟨?_,?_⟩
       ·intro j hj
        simp only[List.mem_cons,List.not_mem_nil,or_false] at hj
        subst hj
        exact aG (Calm.load (T:=67) (p:=⟨mb,1,none⟩) (by kernel_rfl) (Loads.one (k:=1) (by kernel_rfl) ((an (i.blk hm)).trans rfl)))
       refine fT 24575 22552 12 [8] (Does.call (f:=64) (args:= #[.slice va b.length vc]) (by kernel_rfl) (eR _ b b.length _ _ (hr.ext i) (by omega))) ?_
       rintro _ h27 ⟨H,z,rfl,d,Jc,Y⟩
       replace c:=c.co Y Jc d i.size
       replace i:=i.ext Y
       refine⟨?_,?_⟩
       ·intro j hj
        simp only[List.mem_cons,List.not_mem_nil,or_false] at hj
        subst hj
        exact aG (Calm.load (T:=67) (p:=⟨mb,1,none⟩) (by kernel_rfl) (Loads.one (k:=1) (by kernel_rfl) ((an (i.blk hm)).trans rfl)))
       refine mP 32767 [13] [.agg (c8 (jN s ((b.length :Nat):Int) (bE b) ((M.E.length :Nat):Int)) 0 false false (.slice none 0 0) (.slice H b.length z)).toArray] ?_
       replace R:=R.x Y
       refine mV 65535 65535 15 0 (c8 (jN s ((b.length :Nat):Int) (bE b) ((M.E.length :Nat):Int)) 0 false false (.slice none 0 0) (.slice H b.length z)) (c8 (jN s ((b.length :Nat):Int) (bE b) ((M.E.length :Nat):Int)) 0 false false (.slice none 0 0) (.slice H b.length z)) R fun h28 Z zq=> ?_
       replace R:=zq
       refine mE [(9,pV h9.size)] fun a r=> ?_
       replace c:=c.up Z.size
       have iM:=c.pick (l':=[some h9.size,H.map (·.block),some (h.size)]) [1,0,2] rfl (by decide)
       replace kt:=(((kt.ext g8).ext g21).ext Y).grew Z (c.zero 1 rfl V)
       replace N:=(((N.x g8).x g21).x Y).y Z (c.bp 2 1)
       replace i:=i.grew Z (c.l 1)
       replace d:=d.k Z (c.ap 0 1)
       exact⟨h9.size,H,z,rfl,i,kt,d,N,R,iM,r.to⟩
     ·refine qg 19439 16384 14 [8] (Does.new (v:= .pointer (some ⟨h4.size,0,none⟩)) (o:= .cells (c6 (.slice none 0 0)).toArray 101) (by kernel_rfl)) ?_
      rintro _ h30 ⟨rfl,hh⟩
      have y5:Ext h4 h30:=aY hh
      have S:h30[h4.size]? =some (.cells (c6 (.slice none 0 0)).toArray 101):=bj hh
      clear hh
      replace c:=(c.up g5.size).nw i.size S
      replace i:=i.ext y5
      refine⟨?_,?_⟩
      ·intro j hj
       simp only[List.mem_cons,List.not_mem_nil,or_false] at hj
       subst hj
       exact aG (Calm.load (T:=67) (p:=⟨mb,1,none⟩) (by kernel_rfl) (Loads.one (k:=1) (by kernel_rfl) ((an (i.blk hm)).trans rfl)))
      replace kt:=((kt.ext g2).grew g5 (c.zero 1 rfl V)).ext y5
      refine fT 19455 16408 4 [8] (Does.call (f:=63) (args:= #[.slice va b.length vc]) (by kernel_rfl) (w6 _ b _ _ (hr.ext i) (by omega) kt)) ?_
      rintro _ vk ⟨rfl,rm⟩
      replace i:=i.ext rm
      refine⟨?_,?_⟩
      ·intro j hj
       simp only[List.mem_cons,List.not_mem_nil,or_false] at hj
       subst hj
       exact aG (Calm.load (T:=67) (p:=⟨mb,1,none⟩) (by kernel_rfl) (Loads.one (k:=1) (by kernel_rfl) ((an (i.blk hm)).trans rfl)))
      refine mP 20479 [10] [.agg (rc (jN s ((b.length :Nat):Int) (bE b) ((M.E.length :Nat):Int)) 0 false false (.slice none 0 0)).toArray]<|fT 24575 22552 12 [8] (Does.call (f:=64) (args:= #[.slice va b.length vc]) (by kernel_rfl) (eR _ b b.length _ _ (hr.ext i) (by omega))) ?_
      rintro _ uN ⟨I,D,rfl,d,Je,oq⟩
      replace c:=(c.up rm.size).co oq Je d i.size
      replace i:=i.ext oq
      refine⟨?_,?_⟩
      ·intro j hj
       simp only[List.mem_cons,List.not_mem_nil,or_false] at hj
       subst hj
       exact aG (Calm.load (T:=67) (p:=⟨mb,1,none⟩) (by kernel_rfl) (Loads.one (k:=1) (by kernel_rfl) ((an (i.blk hm)).trans rfl)))
      refine mP 32767 [13] [.agg (c8 (jN s ((b.length :Nat):Int) (bE b) ((M.E.length :Nat):Int)) 0 false false (.slice none 0 0) (.slice I b.length D)).toArray] ?_
      replace S:=(S.x rm).x oq
      refine mV 65535 65535 15 0 (c8 (jN s ((b.length :Nat):Int) (bE b) ((M.E.length :Nat):Int)) 0 false false (.slice none 0 0) (.slice I b.length D)) (c8 (jN s ((b.length :Nat):Int) (bE b) ((M.E.length :Nat):Int)) 0 false false (.slice none 0 0) (.slice I b.length D)) S fun yZ rn zq=> ?_
      replace S:=zq
      refine mE [(9,pV h4.size)] fun a r=> ?_
      replace c:=c.up rn.size
      have iM:=c.pick (l':=[some h4.size,I.map (·.block),some (h.size)]) [1,0,2] rfl (by decide)
      replace N:=(((N.x y5).x rm).x oq).y rn (c.bp 2 1)
      replace kt:=((kt.ext rm).ext oq).grew rn (c.zero 1 rfl V)
      replace i:=i.grew rn (c.l 1)
      replace d:=d.k rn (c.ap 0 1)
      exact⟨h4.size,I,D,rfl,i,kt,d,N,S,iM,r.to⟩
    ·clear r a i kt N c
     rintro e a h42 ⟨Hx,P,F,rfl,i,kt,d,N,FK,c,r⟩
     refine tK<|qS r<|tO 3 1 FK<|tQ 6 2 ((hl (jN s ((b.length :Nat):Int) (bE b) ((M.E.length :Nat):Int))).map bv) FK<|tG 7 (Au _ s b.length (bE b) (jN s ((b.length :Nat):Int) (bE b) ((M.E.length :Nat):Int)) (wE (dQ b)) hok (by omega)) ?_
     rintro _ h47 ⟨Db,J,rfl,u,Jg,za⟩
     replace c:=c.co za Jg u i.size
     refine sT [(10,.slice Db ((dq s b.length (bE b)).length) J),(11,.int .i64 0)] fun a r=>cS<|qP [(57,.bool true)] r fun a r=>cT 57 r<|cS<|cD [0,1,3,7,0,0,63] 11 mixed r<|mP 7 [0,1,2] [pV mb,pV mb,pV mb] ?_
     replace i:=i.ext za
     refine mO 15 8 3 0 (.map (some mp)) (i.blk hm)<|mP 31 [4] [.string s] ?_
     replace FK:=FK.x za
     refine mR 63 40 5 FK ?_
     have hpo:=i.blk hp
     have hmo:=i.blk hm
     have hbp:=ak hp
     refine iO 127 127 6 (Does.qH (t:=81) (k:=9) (el:=101) (v:= .agg (c8 (jN s ((b.length :Nat):Int) (bE b) ((M.E.length :Nat):Int)) 0 false false (.slice none 0 0) (.slice P b.length F)).toArray) (by kernel_rfl) (by kernel_rfl) (by kernel_rfl) hpo hno) ?_
     rintro _ h48 ⟨rfl,hh⟩
     have gp:=bC hh
     have hpn:=fo hh hpo
     have hm2:=gp.blk hmo (fun e=>md.ne (Option.some.inj e))
     have g0:MG mb mp h h48:=(MG.aK i).trans (MG.zS gp)
     replace d:=d.ext za
     replace d:=d.kept gp (by rw[af];right;intro e;have:=c.low 2 rfl _ e;omega)
     replace u:=u.kept gp (by rw[af];right;intro e;have:=c.low 0 rfl _ e;omega)
     replace c:=c.up gp.size
     clear hh
     refine mE [] fun a r=>tK<|rS r<|tO 4 1 hm2<|tC 5 (.slice ea M.E.length M.E.length) (Does.call (f:=66) (args:= #[.slice ea M.E.length ec]) (by kernel_rfl) (wZ _ M.E.length ea ec md.er.1.1.w7)) ?_
     have her:=(md.er.ext i).mg (MG.zS gp) hmo hpo
     refine tN 7 (.slice (some ⟨h48.size,0,none⟩) 1 1) #[.slice Db ((dq s b.length (bE b)).length) J] 32 fun D_ U LM=> ?_
     replace c:=c.nw g0.1 LM
     replace her:=her.ext U
     refine tF 8 (Does.qZ (t:=67) (E:=32) (sz:=1) (dV:=24) (n:=M.E.length) (m:=1) (xs:=es) (ys:=[.slice Db ((dq s b.length (bE b)).length) J]) (by kernel_rfl) (by kernel_rfl) (Av her.1.1) (Row.blk LM rfl) (List.all_eq_true.1 (by rfl)) (by decide) (by unfold maxLen;omega) (by omega)) ?_
     rintro _ Co ⟨O,BJ,rfl,FL,hbn,g⟩
     replace g0:=g0.ext U
     have Jh:∀k,(some O).map (fun(x:Addr)=>x.block)=some k→h.size ≤k:=fun k e=>by have e2:O.block =k:=(by simpa using e);have:=g0.1;omega
     replace d:=d.ext U
     replace u:=u.ext U
     replace hpn:=U.blk hpn
     replace hm2:=hm2.x U
     replace d:=d.ext g
     replace u:=u.ext g
     replace g0:=g0.ext g
     replace hpn:=g.blk hpn
     replace hm2:=hm2.x g
     replace c:=c.up g.size
     clear g
     refine tW 11 1 ([.slice (some O) (M.E.length +1) BJ]) ([.map (some mp),.slice ea M.E.length ec,.int .i64 M.t]) ([.map (some mp),.slice (some O) (M.E.length +1) BJ,.int .i64 M.t]) hm2 (fun Da gm hmD=> ?_)
     refine sE [] fun a r=>tK<|qP [(6,.int .i64 0)] r fun a r=>cR<|rT 6 (.int .i64 0) r ?_
     have hel:=jm s b.length (dQ b)
     have hsl:=gV hok
     have hob:fD W Co s (.agg (c8 (jN s ((b.length :Nat):Int) (bE b) ((M.E.length :Nat):Int)) 0 false false (.slice none 0 0) (.slice P b.length F)).toArray) (ph s b M.E.length):=⟨rfl,gE,_,_,_,_,rfl,(Row.nil h 4).zero rfl,cr.new d (by decide) hW (c.low 3 rfl)⟩
     have hfin:=md.Iw g0 hpn hm2 hno hob (cr.new FL (by decide) hW Jh) (by omega) (cr.new u (by decide) hW (c.low 1 rfl)) gm hmD
     rw[jo hok gE hf];exact⟨rfl,hfin.1,hfin.2⟩
  ·refine rS r<|tC 1 (.bool false) (Does.call (f:=62) (args:= #[.string s]) (by kernel_rfl) (jH _ s hsz hok))<|sE [(21,.bool true)] fun a r=>tK<|cT 21 r<|qP [(6,.int .i64 210)] r fun a r=>cR (yB (yT ?_))
   refine rT 6 (.int .i64 210) r ?_
   replace i:=(i.ext g2).grew g5 (c.l 0)
   rw[nY hok];exact⟨rfl,⟨_,_,_,_,_,md.ext i⟩,MG.aK i⟩
 ·refine rS r<|tO 3 0 (i.blk hm)<|tC 5 (.tuple #[.agg (c8 o.b o.e o.ho o.go (.slice ca 0 cc) (.slice ba o.dt.length bc)).toArray,.bool true]) (gW (t:=81) 9 101 (by kernel_rfl) (by kernel_rfl) (by kernel_rfl) (.agg (c6 (.slice none 0 0)).toArray) (by kernel_rfl) (i.blk hp) (List.mem_append_right _ (List.mem_cons_self ..)) hs md.nd hv)<|tN 9 (pV h.size) ((c6 (.slice none 0 0)).toArray) 101 fun D5 Ed LN=> ?_
  replace c:=c.nw i.size LN
  refine bA 10 (c8 o.b o.e o.ho o.go (.slice ca 0 cc) (.slice ba o.dt.length bc)) LN fun Hw rp zq=>sE [(8,.bool true)] fun a r=>tK<|cS<|cB 0<|cS ?_
  rcases Bool.eq_false_or_eq_true (aM s) with hok|hok
  ·refine rS r<|tC 1 (.bool true) (Does.call (f:=62) (args:= #[.string s]) (by kernel_rfl) (gD _ s hok))<|sE [(21,.bool false)] fun a r=>tK<|cF 21 r<|cS ?_
   rcases Nat.lt_or_ge 512 b.length with gE|gE
   ·refine rS r<|tT 2 ((512:Int)<((b.length :Nat):Int))<|sE [(25,.bool true)] fun a r=>tK<|cT 25 r<|qP [(6,.int .i64 5)] r fun a r=>cR (yB (yT ?_))
    refine rT 6 (.int .i64 5) r ?_
    replace i:=(i.ext Ed).grew rp (c.l 0)
    rw[gX hok gE];exact⟨rfl,⟨_,_,_,_,_,md.ext i⟩,MG.aK i⟩
   ·refine rS r<|tX 2 ((512:Int)<((b.length :Nat):Int))<|sE [(25,.bool false)] fun a r=>tK<|cF 25 r<|qP [(29,.bool true)] r fun a r=>cT 29 r ?_
    refine qP [(6,.int .i64 212)] r fun a r=>cR (yB (yT ?_))
    refine rT 6 (.int .i64 212) r ?_
    replace i:=(i.ext Ed).grew rp (c.l 0)
    rw[iI hok gE hf];exact⟨rfl,⟨_,_,_,_,_,md.ext i⟩,MG.aK i⟩
  ·refine rS r<|tC 1 (.bool false) (Does.call (f:=62) (args:= #[.string s]) (by kernel_rfl) (jH _ s hsz hok))<|sE [(21,.bool true)] fun a r=>tK<|cT 21 r<|qP [(6,.int .i64 210)] r fun a r=>cR (yB (yT ?_))
   refine rT 6 (.int .i64 210) r ?_
   replace i:=(i.ext Ed).grew rp (c.l 0)
   rw[nY hok];exact⟨rfl,⟨_,_,_,_,_,md.ext i⟩,MG.aK i⟩
noncomputable def M_:Code:=Tryz.f124.body.getD .skip
theorem s4(h:Heap)(x:Int):Sat Tryz.prog 124 #[.int .i64 x] h fun v h'=>v= .bool false∧h'=h:=by
 refine ag Tryz.func124 6 fun a b=>qP [] b fun a b=>qS b<|uF 2 x x<|sT [(2,.bool false)] fun a b=>cR<|rT 2 (.bool false) b ?_
 exact⟨rfl,rfl⟩
noncomputable def Na:Code:=Tryz.f109.body.getD .skip
theorem pN(h:Heap)(x y:Int):Sat Tryz.prog 109 #[.int .i64 x,.int .i64 y] h fun v h'=>v= .int .i64 (eo x y)∧h'=h:=by
 refine ag Tryz.func109 20 fun a b=>qP [] b fun a b=>qS b<|tC 1 (.bool false) (Does.call (f:=124) (args:= #[.int .i64 x]) (by kernel_rfl) (s4 _ x))<|sT [(5,.bool false)] fun a b=>qS b<|tC 1 (.bool false) (Does.call (f:=124) (args:= #[.int .i64 y]) (by kernel_rfl) (s4 _ y)) ?_
 refine sT [(6,.bool false)] fun a b=>cS<|qP [(11,.bool false)] b fun a b=>cF 11 b<|cN<|tK<|cS ?_
 refine qP [(13,.bool false)] b fun a b=>cF 13 b<|cN<|tK<|cS<|qP [(16,.bool (decide (x<y)))] b fun a b=>cJ 16 b (fun c=> ?_) fun c=> ?_
 ·refine qP [(4,.int .i64 (-1))] b fun a b=>cR (yT ?_)
  exact rT 4 (.int .i64 (-1)) b<|⟨congrArg (Value.int .i64) (by unfold eo;split<;>first|omega| (split<;>omega)),rfl⟩
 ·refine cN<|tK<|cS<|qP [(19,.bool (decide (y<x)))] b fun a b=>cJ 19 b (fun d=> ?_) fun d=> ?_
  ·refine qP [(4,.int .i64 1)] b fun a b=>cR (yT ?_)
   exact rT 4 (.int .i64 1) b<|⟨congrArg (Value.int .i64) (by unfold eo;split<;>first|omega| (split<;>omega)),rfl⟩
  ·exact cN<|tK<|qP [(4,.int .i64 0)] b fun a b=>cR<|rT 4 (.int .i64 0) b<|⟨congrArg (Value.int .i64) (by unfold eo;split<;>first|omega| (split<;>omega)),rfl⟩
noncomputable def Nb:Code:=Tryz.f111.body.getD .skip
theorem pO(h:Heap)(s t:ByteArray):Sat Tryz.prog 111 #[.string s,.string t] h fun v h'=>v= .int .i64 (Lib.compareBytes s.data.toList t.data.toList)∧h'=h:=by
 refine ag Tryz.func111 8 fun a b=>qP [] b fun a b=>qS b<|t1 2 (.int .i64 (Lib.compareBytes s.data.toList t.data.toList)) (.int .i64 (Extern.BytealgCompare.cmp s t)) (congrArg (Value.int .i64) (Lib.cmp_eq s t))<|sT [(4,.int .i64 (Lib.compareBytes s.data.toList t.data.toList))] fun a b=>cR<|rT 4 (.int .i64 (Lib.compareBytes s.data.toList t.data.toList)) b ?_
 exact⟨rfl,rfl⟩
noncomputable def b74:Code:=Tryz.f74.body.getD .skip
theorem ot(h:Heap)(s t:ByteArray):Sat Tryz.prog 74 #[.string s,.string t] h fun v h'=>v= .int .i64 (Lib.compareBytes s.data.toList t.data.toList)∧h'=h:=by
 refine ag Tryz.func74 8 fun a b=>qP [] b fun a b=>qS b<|tC 2 (.int .i64 (Lib.compareBytes s.data.toList t.data.toList)) (Does.call (f:=111) (args:= #[.string s,.string t]) (by kernel_rfl) (pO _ s t))<|sT [(4,.int .i64 (Lib.compareBytes s.data.toList t.data.toList))] fun a b=>cR<|rT 4 (.int .i64 (Lib.compareBytes s.data.toList t.data.toList)) b ?_
 exact⟨rfl,rfl⟩
noncomputable def Nc:Code:=Tryz.f108.body.getD .skip
theorem Dc(h:Heap)(b:Nat)(p q:Int)(m:h[b]? =some (.cells #[.int .i64 p,.int .i64 q] 3)):Sat Tryz.prog 108 #[.slice (some ⟨b,0,none⟩) 2 2] h fun v h'=>v= .int .i64 (if p=0 then q else p)∧h'=h:=by
 refine ag Tryz.func108 18 fun a c=>qP [] c fun a c=>qP [(3,.int .i64 0)] c fun a c=>cS<|qP [(6,.slice (some ⟨b,0,none⟩) 2 2),(7,.int .i64 2),(8,.int .i64 0)] c fun a c=>cB 0<|cU 3 ?_
 refine ar.step <|qP [(9,.bool true)] c fun a c=>cS<|cT 9 c<|cN<|tK<|cS ?_
 refine cB 1<|qS c<|tJ 0 b 0 2 1 0 0<|tO 1 0 m<|sT [(5,.int .i64 p)] fun a c=>qP [(14,.bool (!decide (p=(0:Int))))] c fun a c=>cI 14 c (fun d=> ?_) fun d=> ?_
 ·refine qP [(2,.int .i64 p)] c fun a c=>cR (yB (yT (yT (yB (yT ?_)))))
  exact rT 2 (.int .i64 p) c<|⟨congrArg (Value.int .i64) (by split<;>omega),rfl⟩
 ·refine cN<|bK<|tK<|rP [(8,.int .i64 1)] c fun a c=>tK (ar.step ?_)
  refine qP [(9,.bool true)] c fun a c=>cS<|cT 9 c<|cN<|tK<|cS<|cB 1 ?_
  refine qS c<|tJ 0 b 0 2 1 1 1<|tO 1 1 m<|sT [(5,.int .i64 q)] fun a c=>qP [(14,.bool (!decide (q=(0:Int))))] c fun a c=>cI 14 c (fun e=> ?_) fun e=> ?_
  ·refine qP [(2,.int .i64 q)] c fun a c=>cR (yB (yT (yT (yB (yT ?_)))))
   exact rT 2 (.int .i64 q) c<|⟨congrArg (Value.int .i64) (by split<;>omega),rfl⟩
  ·refine cN<|bK<|tK<|rP [(8,.int .i64 2)] c fun a c=>tK (ar.step ?_)
   refine qP [(9,.bool false)] c fun a c=>cS<|cF 9 c<|cX 0 (xT (xT (xB ?_)))
   exact tK<|qP [(2,.int .i64 0)] c fun a c=>cR<|rT 2 (.int .i64 0) c<|⟨congrArg (Value.int .i64) (by split<;>omega),rfl⟩
noncomputable def Nd:Code:=Tryz.f107.body.getD .skip
theorem gG(h:Heap)(r s:Rec):Sat Tryz.prog 107 #[.agg (rcs r).toArray,.agg (rcs s).toArray] h fun v h'=>v= .int .i64 (eP r s)∧Ext h h':=by
 have c:=Ext.refl h
 refine ag Tryz.func107 17 fun a d=>qS d<|tN 0 (pV h.size) ((rcs r).toArray) 95 fun g o i=> ?_
 replace c:=c.ext o
 refine tN 1 (pV g.size) ((rcs s).toArray) 95 fun l m n=> ?_
 replace c:=c.ext m
 replace i:=i.x m
 refine sT [(2,pV h.size),(3,pV g.size)] fun a d=>cS<|cD [0,1,0,4,15,0,32,0,128,511,1023,2047,4095] 1 mixed d<|mP 1 [0] [.pointer (some ⟨h.size,35,none⟩)]<|mO 3 2 1 35 (.int .i64 r.e) i<|mP 7 [2] [.pointer (some ⟨g.size,35,none⟩)]<|mO 15 10 3 35 (.int .i64 s.e) n ?_
 refine mL 31 26 4 (.int .i64 (eo r.e s.e)) (Does.call (f:=109) (args:= #[.int .i64 r.e,.int .i64 s.e]) (by kernel_rfl) (pN _ r.e s.e))<|mP 63 [5] [pV h.size]<|mO 127 90 6 0 (.string r.b.id) i<|mP 255 [7] [pV g.size]<|mO 511 346 8 0 (.string s.b.id) n<|mL 1023 858 9 (.int .i64 (Lib.compareBytes r.b.id.data.toList s.b.id.data.toList)) (Does.call (f:=74) (args:= #[.string r.b.id,.string s.b.id]) (by kernel_rfl) (ot _ r.b.id s.b.id))<|mN 2047 2047 10 (.slice (some ⟨l.size,0,none⟩) 2 2) #[.int .i64 (eo r.e s.e),.int .i64 (Lib.compareBytes r.b.id.data.toList s.b.id.data.toList)] 3 fun p j k=> ?_
 replace c:=c.ext j
 exact mL 4095 2906 11 (.int .i64 (if (eo r.e s.e)=0 then (Lib.compareBytes r.b.id.data.toList s.b.id.data.toList) else (eo r.e s.e))) (Does.call (f:=108) (args:= #[.slice (some ⟨l.size,0,none⟩) 2 2]) (by kernel_rfl) (Dc _ _ (eo r.e s.e) (Lib.compareBytes r.b.id.data.toList s.b.id.data.toList) k))<|mP 8191 [12] [.int .i64 (if (eo r.e s.e)=0 then (Lib.compareBytes r.b.id.data.toList s.b.id.data.toList) else (eo r.e s.e))]<|mE [(4,.int .i64 (if (eo r.e s.e)=0 then (Lib.compareBytes r.b.id.data.toList s.b.id.data.toList) else (eo r.e s.e)))] fun a d=>tK<|cR<|rT 4 (.int .i64 (if (eo r.e s.e)=0 then (Lib.compareBytes r.b.id.data.toList s.b.id.data.toList) else (eo r.e s.e))) d<|⟨rfl,c⟩
noncomputable def Nf:Code:=Tryz.f139.body.getD .skip
set_option maxHeartbeats 1000000 in
theorem s5(h:Heap)(ad:Option Addr)(cap n la lb:Nat)(L:List Rec)(ae:Own h (.slice ad n cap) 95 n 39 (a7 L))(hLn:L.length =n)(hb:lb≤n)(ha:la≤n)(hn:n≤1099511627776):Sat Tryz.prog 139 #[.slice ad n cap,.int .i64 ((la:Nat):Int),.int .i64 ((lb:Nat):Int),.func (.func 107) #[] #[]] h fun _ h'=>∃M,M.length =n∧M.Perm L∧(∀p,p<la∨lb≤p→M.getD p ai=L.getD p ai)∧bq M la lb∧Own h' (.slice ad n cap) 95 n 39 (a7 M)∧Grew (ad.map (fun(x:Addr)=>x.block)) h h':=by
 have d:=Grew.refl (ad.map (fun(x:Addr)=>x.block)) h
 refine ag Tryz.func139 53 fun a b=>qS b<|tA 1 la 1<|sT [(8,nV (la+1))] fun a b=>cB 0<|cL (fun m a h'=>∃i:Nat,∃M:List Rec,m=lb - i∧(Grew (ad.map (fun(x:Addr)=>x.block)) h h')∧(la<i∧(i≤lb∨i=la+1))∧(M.length =n)∧(M.Perm L)∧(∀p,p<la∨lb≤p→M.getD p ai=L.getD p ai)∧(bq M la i)∧(Own h' (.slice ad n cap) 95 n 39 (a7 M))∧(Fr a 53 [(0,.slice ad n cap),(1,.int .i64 ((la:Nat):Int)),(2,.int .i64 ((lb:Nat):Int)),(3,.func (.func 107) #[] #[]),(8,.int .i64 ((i:Nat):Int))])) (lb - (la+1)) ⟨(la+1),L,rfl,d,(by omega),hLn,(List.Perm.refl _),(fun _ _=>rfl),(bq.one L la),ae,b.to⟩ ?_
 clear b a
 clear d
 clear hLn
 clear ae
 rintro m a o ⟨i,M,rfl,d,hi,e,hP,hout,hs,ae,b⟩
 refine cS<|qP [(14,.bool (decide (((i:Nat):Int)<((lb:Nat):Int))))] b fun a b=>cJ 14 b (fun k=> ?_) fun k=> ?_
 ·refine cN<|tK<|cS<|cB 1<|qP [(9,nV i)] b fun a b=>cB 2<|cL (fun m a h'=>∃j:Nat,∃M:List Rec,m=j+1∧(Grew (ad.map (fun(x:Addr)=>x.block)) h h')∧(la≤j∧j≤i)∧(M.length =n)∧(M.Perm L)∧(∀p,p<la∨lb≤p→M.getD p ai=L.getD p ai)∧(qQ M la i j)∧(Own h' (.slice ad n cap) 95 n 39 (a7 M))∧(Fr a 53 [(0,.slice ad n cap),(1,.int .i64 ((la:Nat):Int)),(2,.int .i64 ((lb:Nat):Int)),(3,.func (.func 107) #[] #[]),(8,.int .i64 ((i:Nat):Int)),(9,.int .i64 ((j:Nat):Int))])) (i+1) ⟨i,M,rfl,d,(by omega),e,hP,hout,hs.ins,ae,b.to⟩ ?_
  clear b a
  clear d
  clear e
  clear hP
  clear hout
  clear ae
  rintro m a r ⟨j,M,rfl,d,hj,e,hP,hout,hins,ae,b⟩
  refine cS<|cS ?_
  rcases Nat.lt_or_ge la j with haj|haj
  ·obtain⟨aa,rfl,bW⟩:=ae.bg (by omega)
   refine cD [0,0,3,7,15,15,15,111,239,15,15,1039,3599,7695,16383,32767,65535] 4 mixed b<|mP 3 [0,1] [nV j,nV la]<|KT 7 2 (((la:Nat):Int)<((j:Nat):Int))<|mP 127 [3,4,5,6] [.bool true,.func (.func 107) #[] #[],.slice (some aa) n cap,nV j]<|mI 255 7 aa n 39 j (j*39)<|mY 511 256 8 j ai bf (ae.row)<|mP 2047 [9,10] [.slice (some aa) n cap,nV j] ?_
   refine mU 4095 11 j 1<|mI 8191 12 aa n 39 (j - 1) ((j - 1)*39)<|mY 16383 8448 13 (j - 1) ai bf (ae.row)<|iO 32767 32767 14 (Does.call (f:=107) (args:= #[.agg (rcs (M.getD j ai)).toArray,.agg (rcs (M.getD (j - 1) ai)).toArray]) (by kernel_rfl) (gG _ (M.getD j ai) (M.getD (j - 1) ai))) ?_
   rintro _ t ⟨rfl,g⟩
   replace d:=d.trans (g.but _)
   replace ae:=ae.ext g
   clear g
   refine mP 131071 [15,16] [.bool (decide ((eP (M.getD j ai) (M.getD (j - 1) ai))<(0:Int))),.bool (decide ((eP (M.getD j ai) (M.getD (j - 1) ai))<(0:Int)))]<|mE [(34,.bool (decide ((eP (M.getD j ai) (M.getD (j - 1) ai))<(0:Int))))] fun a b=>tK<|cJ 34 b (fun l=> ?_) fun l=> ?_
   ·refine cN<|tK<|cS<|cB 3<|cD [0,0,0,0,8,0,0,64,224,480,0,0,3072,7168,16355,32739,65535,131071] 6 mixed b<|mP 15 [0,1,2,3] [.slice (some aa) n cap,nV j,.slice (some aa) n cap,nV j]<|mU 31 4 j 1 ?_
    refine mP 127 [5,6] [.slice (some aa) n cap,nV j]<|mU 255 7 j 1<|mI 511 8 aa n 39 (j - 1) ((j - 1)*39)<|mY 1023 512 9 (j - 1) ai bf (ae.row)<|mP 4095 [10,11] [.slice (some aa) n cap,nV j]<|mI 8191 12 aa n 39 j (j*39)<|mY 16383 8704 13 j ai bf (ae.row) ?_
    refine mI 32767 14 aa n 39 j (j*39)<|iO 65535 65507 15 (Does.cZ (a:=aa) (q:=j*39) (vs:=rcs (M.getD (j - 1) ai)) (by kernel_rfl) ae (by show _+39≤_;omega) (dG _)) ?_
    rintro _ u ⟨rfl,c,g⟩
    replace d:=d.trans g
    rw[gk bf (by first|omega| (rw[List.length_set];omega))] at c
    clear ae;have ae:=c;clear c g
    refine mI 131071 16 aa n 39 (j - 1) ((j - 1)*39)<|iO 262143 262143 17 (Does.cZ (a:=aa) (q:=(j - 1)*39) (vs:=rcs (M.getD j ai)) (by kernel_rfl) ae (by show _+39≤_;omega) (dG _)) ?_
    rintro _ v ⟨rfl,c,g⟩
    replace d:=d.trans g
    rw[gk bf (by first|omega| (rw[List.length_set];omega))] at c
    clear ae;have ae:=c;clear c g
    refine mE [] fun a b=>bK<|tK<|rS b<|tU 1 j 1<|sE [(9,nV (j - 1))] fun a b=> ?_
    show ∃m',m'<_∧_
    refine⟨_,?_,(j - 1),(swp M j),rfl,d,(by omega),((qR M j).trans e),((wb (by omega) (by omega)).trans hP),(fun p hp=>by rw[swp_get (by omega) (by omega),if_neg (by omega),if_neg (by omega)];exact hout p hp),(hins.step (by omega) (by omega) (by omega) (by omega)),ae,b.to⟩
    omega
   ·have hs:=hins.done (by omega) (by omega) (.inr (by omega))
    clear hins
    refine cX 2 (xT (xT (xB ?_)))
    refine bK<|tK<|rS b<|tA 1 i 1<|sE [(8,nV (i+1))] fun a b=> ?_
    show ∃m',m'<_∧_
    refine⟨_,?_,(i+1),M,rfl,d,(by omega),e,hP,hout,hs,ae,b.to⟩
    omega
  ·have hs:=hins.done (by omega) (by omega) (.inl (by omega))
   clear hins
   refine cD [0,0,3,7,15,15,15,111,239,15,15,1039,3599,7695,16383,32767,65535] 4 mixed b<|mP 3 [0,1] [nV j,nV la]<|KU 7 2 (((la:Nat):Int)<((j:Nat):Int))<|mP 131071 [3,4,5,6,7,8,9,10,11,12,13,14,15,16] [.bool false,undef,undef,undef,undef,undef,undef,undef,undef,undef,undef,undef,undef,.bool false]<|mE [(34,.bool false)] fun a b=>tK<|cF 34 b ?_
   refine cX 2 (xT (xT (xB ?_)))
   refine bK<|tK<|rS b<|tA 1 i 1<|sE [(8,nV (i+1))] fun a b=> ?_
   show ∃m',m'<_∧_
   refine⟨_,?_,(i+1),M,rfl,d,(by omega),e,hP,hout,hs,ae,b.to⟩
   omega
 ·refine cX 0 (xT (xT (xB ?_)))
  exact n0 b<|⟨M,e,hP,hout,fun p q o s r=>hs p q o s (by omega),ae,d⟩
noncomputable def Ng:Code:=Tryz.f148.body.getD .skip
set_option maxHeartbeats 1000000 in
theorem ou(h:Heap)(ad:Option Addr)(cap n la lb lc:Nat)(L:List Rec)(ae:Own h (.slice ad n cap) 95 n 39 (a7 L))(hLn:L.length =n)(hac:la+lc≤lb)(hbc:lb+lc≤n)(hn:n≤1099511627776):Sat Tryz.prog 148 #[.slice ad n cap,.int .i64 ((la:Nat):Int),.int .i64 ((lb:Nat):Int),.int .i64 ((lc:Nat):Int),.func (.func 107) #[] #[]] h fun _ h'=>∃M,M.length =n∧M.Perm L∧Idx M L (qh la lb lc)∧Own h' (.slice ad n cap) 95 n 39 (a7 M)∧Grew (ad.map (fun(x:Addr)=>x.block)) h h':=by
 have d:=Grew.refl (ad.map (fun(x:Addr)=>x.block)) h
 refine ag Tryz.func148 38 fun a c=>qP [(10,.int .i64 0)] c fun a c=>cB 0<|cL (fun m a h'=>∃i:Nat,∃M:List Rec,m=lc - i∧(Grew (ad.map (fun(x:Addr)=>x.block)) h h')∧(i≤lc)∧(M.length =n)∧(M.Perm L)∧(Idx M L (qh la lb i))∧(Own h' (.slice ad n cap) 95 n 39 (a7 M))∧(Fr a 38 [(0,.slice ad n cap),(1,.int .i64 ((la:Nat):Int)),(2,.int .i64 ((lb:Nat):Int)),(3,.int .i64 ((lc:Nat):Int)),(10,.int .i64 ((i:Nat):Int))])) (lc - 0) ⟨0,L,rfl,d,(by omega),hLn,(List.Perm.refl _),(Idx.refl _ (EI la lb)),ae,c.to⟩ ?_
 clear c a
 clear d
 clear hLn
 clear ae
 rintro m a j ⟨i,M,rfl,d,hi,f,hP,hx,ae,c⟩
 refine cS<|qP [(13,.bool (decide (((i:Nat):Int)<((lc:Nat):Int))))] c fun a c=>cJ 13 c (fun e=> ?_) fun e=> ?_
 ·obtain⟨aa,rfl,bW⟩:=ae.bg (by omega)
  refine cN<|tK<|cS<|cB 1<|cD [0,0,0,6,0,0,0,96,0,0,0,1536,3840,7936,0,0,0,98304,245760,507904,1048335,2096911,4194303,8388607] 3 mixed c<|mP 7 [0,1,2] [.slice (some aa) n cap,nV la,nV i]<|mA 15 3 la i ?_
  refine mP 127 [4,5,6] [.slice (some aa) n cap,nV lb,nV i]<|mA 255 7 lb i<|mP 2047 [8,9,10] [.slice (some aa) n cap,nV lb,nV i]<|mA 4095 11 lb i<|mI 8191 12 aa n 39 (lb+i) ((lb+i)*39)<|mY 16383 8192 13 (lb+i) ai bf (ae.row)<|mP 131071 [14,15,16] [.slice (some aa) n cap,nV la,nV i] ?_
  refine mA 262143 17 la i<|mI 524287 18 aa n 39 (la+i) ((la+i)*39)<|mY 1048575 532480 19 (la+i) ai bf (ae.row)<|mI 2097151 20 aa n 39 (la+i) ((la+i)*39)<|iO 4194303 4194063 21 (Does.cZ (a:=aa) (q:=(la+i)*39) (vs:=rcs (M.getD (lb+i) ai)) (by kernel_rfl) ae (by show _+39≤_;omega) (dG _)) ?_
  rintro _ k ⟨rfl,b,g⟩
  replace d:=d.trans g
  rw[gk bf (by first|omega| (rw[List.length_set];omega))] at b
  clear ae;have ae:=b;clear b g
  refine mI 8388607 22 aa n 39 (lb+i) ((lb+i)*39)<|iO 16777215 16777215 23 (Does.cZ (a:=aa) (q:=(lb+i)*39) (vs:=rcs (M.getD (la+i) ai)) (by kernel_rfl) ae (by show _+39≤_;omega) (dG _)) ?_
  rintro _ l ⟨rfl,b,g⟩
  replace d:=d.trans g
  rw[gk bf (by first|omega| (rw[List.length_set];omega))] at b
  clear ae;have ae:=b;clear b g
  refine mE [] fun a c=>bK<|tK<|rS c<|tA 1 i 1<|sE [(10,nV (i+1))] fun a c=> ?_
  show ∃m',m'<_∧_
  refine⟨_,?_,(i+1),(l_ M (la+i) (lb+i)),rfl,d,(by omega),((gn M _ _).trans f),((jY (by omega) (by omega)).trans hP),(hx.swp (by omega) (by omega) (wh (by omega))),ae,c.to⟩
  omega
 ·refine cX 0 (xT (xT (xB ?_)))
  refine n0 c ?_
  obtain rfl:lc=i:=by omega
  exact⟨M,f,hP,hx,ae,d⟩
noncomputable def Nh:Code:=Tryz.f146.body.getD .skip
theorem s6(h:Heap)(ad:Option Addr)(cap n la lm lb:Nat)(L:List Rec)(ae:Own h (.slice ad n cap) 95 n 39 (a7 L))(hLn:L.length =n)(ham:la<lm)(hmb:lm<lb)(hbn:lb≤n)(hn:n≤1099511627776):Sat Tryz.prog 146 #[.slice ad n cap,.int .i64 ((la:Nat):Int),.int .i64 ((lm:Nat):Int),.int .i64 ((lb:Nat):Int),.func (.func 107) #[] #[]] h fun _ h'=>∃M,M.length =n∧M.Perm L∧Idx M L (kj lm (lm - la) (lb - lm))∧Own h' (.slice ad n cap) 95 n 39 (a7 M)∧Grew (ad.map (fun(x:Addr)=>x.block)) h h':=by
 have d:=Grew.refl (ad.map (fun(x:Addr)=>x.block)) h
 refine ag Tryz.func146 58 fun a b=>qS b<|tU 2 lm la<|sT [(10,nV (lm - la))] fun a b=>qS b<|tU 2 lb lm<|sT [(11,nV (lb - lm))] fun a b=> ?_
 refine cS<|cB 0<|cL (fun m a h'=>∃i:Nat,∃j:Nat,∃M:List Rec,m=i+j∧(Grew (ad.map (fun(x:Addr)=>x.block)) h h')∧(0<i∧0<j∧i≤lm∧lm+j≤lb)∧(M.length =n)∧(M.Perm L)∧(ky L M lm la lb i j)∧(Own h' (.slice ad n cap) 95 n 39 (a7 M))∧(Fr a 58 [(0,.slice ad n cap),(2,.int .i64 ((lm:Nat):Int)),(4,.func (.func 107) #[] #[]),(10,.int .i64 ((i:Nat):Int)),(11,.int .i64 ((j:Nat):Int))])) ((lm - la)+(lb - lm)) ⟨(lm - la),(lb - lm),L,rfl,d,(by omega),hLn,(List.Perm.refl _),(ky.start _ _ _ _),ae,b.to⟩ ?_
 clear b a
 clear d
 clear hLn
 clear ae
 rintro m a l ⟨i,j,M,rfl,d,hij,e,hP,hr,ae,b⟩
 refine cS<|qP [(20,.bool (!decide (((i:Nat):Int)=((j:Nat):Int))))] b fun a b=>cI 20 b (fun f=> ?_) fun f=> ?_
 ·refine cN<|tK<|cB 1<|qP [(23,.bool (decide (((j:Nat):Int)<((i:Nat):Int))))] b fun a b=>cJ 23 b (fun k=> ?_) fun k=> ?_
  ·refine qS b<|tU 3 lm i<|tG 7 (ou _ ad cap n (lm - i) (lm) (j) M ae e (by omega) (by omega) (by omega)) ?_
   rintro _ o ⟨K4,hM2,hP2,hx,c,g⟩
   replace d:=d.trans g
   clear ae;have ae:=c;clear c g
   replace hP:=hP2.trans hP;replace e:=hM2;clear hP2 hM2
   replace hr:=hr.big hx (by omega) (by omega)
   refine sT [] fun a b=>rS b<|tU 2 i j<|sE [(10,nV (i - j))] fun a b=>bK ?_
   show ∃m',m'<_∧_
   refine⟨_,?_,i - j,j,K4,rfl,d,(by omega),e,hP,hr,ae,b.to⟩
   omega
  ·have hlt:i<j:=by omega
   refine qS b<|tU 3 lm i<|tA 6 lm j<|tU 8 (lm+j) i<|tG 11 (ou _ ad cap n (lm - i) ((lm+j) - i) (i) M ae e (by omega) (by omega) (by omega)) ?_
   rintro _ p ⟨K6,hM2,hP2,hx,c,g⟩
   replace d:=d.trans g
   clear ae;have ae:=c;clear c g
   replace hP:=hP2.trans hP;replace e:=hM2;clear hP2 hM2
   replace hr:=hr.small hx (by omega) (by omega)
   refine sT [] fun a b=>rS b<|tU 2 j i<|sE [(11,nV (j - i))] fun a b=>bK ?_
   show ∃m',m'<_∧_
   refine⟨_,?_,i,j - i,K6,rfl,d,(by omega),e,hP,hr,ae,b.to⟩
   omega
 ·have heq:i=j:=by omega
  refine cX 0 (xT (xT (xB ?_)))
  refine tK<|rS b<|tU 3 lm i<|tG 7 (ou _ ad cap n (lm - i) (lm) (i) M ae e (by omega) (by omega) (by omega)) ?_
  rintro _ q ⟨K8,hM2,hP2,hx,c,g⟩
  replace d:=d.trans g
  clear ae;have ae:=c;clear c g
  replace hP:=hP2.trans hP;replace e:=hM2;clear hP2 hM2
  replace hr:=hr.last hx (by omega) (by omega)
  exact sE [] fun a b=>n0 b<|⟨K8,e,hP,hr,ae,d⟩
noncomputable def Ni:Code:=Tryz.f140.body.getD .skip
set_option maxHeartbeats 4000000 in
theorem w9(h:Heap)(ad:Option Addr)(cap n la lm lb:Nat)(L:List Rec)(ae:Own h (.slice ad n cap) 95 n 39 (a7 L))(hLn:L.length =n)(ham:la<lm)(hmb:lm<lb)(hbn:lb≤n)(hn:n≤1099511627776)(hs1:bq L la lm)(hs2:bq L lm lb)(ih:∀(h:Heap) (a m b:Nat) (L:List Rec),b - a<lb - la→Own h (.slice ad n cap) 95 n 39 (a7 L)→L.length =n→a<m→m<b→b≤n→bq L a m→bq L m b→Sat Tryz.prog 140 #[.slice ad n cap,.int .i64 ((a:Nat):Int),.int .i64 ((m:Nat):Int),.int .i64 ((b:Nat):Int),.func (.func 107) #[] #[]] h fun _ h'=>∃M,o_ n a b L M∧Own h' (.slice ad n cap) 95 n 39 (a7 M)∧Grew (ad.map (fun(x:Addr)=>x.block)) h h'):Sat Tryz.prog 140 #[.slice ad n cap,.int .i64 ((la:Nat):Int),.int .i64 ((lm:Nat):Int),.int .i64 ((lb:Nat):Int),.func (.func 107) #[] #[]] h fun _ h'=>∃M,o_ n la lb L M∧Own h' (.slice ad n cap) 95 n 39 (a7 M)∧Grew (ad.map (fun(x:Addr)=>x.block)) h h':=by
 have o:=Grew.refl (ad.map (fun(x:Addr)=>x.block)) h
 refine ag Tryz.func140 220 fun a d=>cS<|qS d<|tU 2 lm la<|sT [(28,.bool (decide (((lm - la:Nat):Int)=(1:Int))))] fun a d=>cJ 28 d (fun p=> ?_) fun p=> ?_
 ·have hm1:lm=la+1:=by omega
  refine qP [(10,nV lm)] d fun a d=>qP [(11,nV lb)] d fun a d=>cS<|cB 0<|cL (fun m a h'=>∃i:Nat,∃j:Nat,m=j - i∧(Grew (ad.map (fun(x:Addr)=>x.block)) h h')∧(lm≤i∧i≤j∧j≤lb)∧(i=lm∨eP (L.getD (i - 1) ai) (L.getD (la) ai)<0)∧(j=lb∨¬eP (L.getD (j) ai) (L.getD (la) ai)<0)∧(Own h' (.slice ad n cap) 95 n 39 (a7 L))∧(Fr a 220 [(0,.slice ad n cap),(1,.int .i64 ((la:Nat):Int)),(4,.func (.func 107) #[] #[]),(10,.int .i64 ((i:Nat):Int)),(11,.int .i64 ((j:Nat):Int))])) (lb - lm) ⟨lm,lb,rfl,o,(by omega),(.inl (by omega)),(.inl (by omega)),ae,d.to⟩ ?_
  clear d a
  clear o
  clear ae
  rintro m a h2 ⟨i,j,rfl,o,hij,s,hhi,ae,d⟩
  refine cS<|qP [(33,.bool (decide (((i:Nat):Int)<((j:Nat):Int))))] d fun a d=>cJ 33 d (fun H=> ?_) fun H=> ?_
  ·obtain⟨aa,rfl,bW⟩:=ae.bg (by omega)
   refine cN<|tK<|cB 1<|qS d<|tA 2 i j<|t1 3 (.int .u64 ((i+j:Nat):Int)) (.int .u64 (IntKind.u64.wrap ((i+j:Nat):Int))) (congrArg (Value.int .u64) (l5 (by omega)))<|t1 4 (.int .u64 (((i+j)/2^1:Nat):Int)) (.int .u64 (Int.fdiv ((i+j:Nat):Int) (2^1))) (congrArg (Value.int .u64) (bL (i+j) 1)) ?_
   refine t1 5 (.int .i64 (((i+j)/2^1:Nat):Int)) (.int .i64 (IntKind.i64.wrap (((i+j)/2^1:Nat):Int))) (congrArg (Value.int .i64) (k7 (by omega) (by omega)))<|sT [(12,nV ((i+j)/2^1))] fun a d=> ?_
   obtain⟨c,hc⟩:∃x,(i+j)/2^1=x:=⟨_,rfl⟩;rw[hc] at d
   have hcb:i≤c∧c<j:=by omega
   refine cS<|cD [0,0,0,6,14,0,0,96,224,511,1023] 5 mixed d<|mP 7 [0,1,2] [.func (.func 107) #[] #[],.slice (some aa) n cap,nV c]<|mI 15 3 aa n 39 c (c*39)<|mY 31 16 4 c ai bf (ae.row)<|mP 127 [5,6] [.slice (some aa) n cap,nV la]<|mI 255 7 aa n 39 la (la*39) ?_
   refine mY 511 272 8 la ai bf (ae.row)<|iO 1023 1023 9 (Does.call (f:=107) (args:= #[.agg (rcs (L.getD c ai)).toArray,.agg (rcs (L.getD la ai)).toArray]) (by kernel_rfl) (gG _ (L.getD c ai) (L.getD la ai))) ?_
   rintro _ h4 ⟨rfl,g⟩
   replace o:=o.trans (g.but _)
   replace ae:=ae.ext g
   clear g
   refine mP 2047 [10] [.bool (decide ((eP (L.getD c ai) (L.getD la ai))<(0:Int)))]<|mE [(50,.bool (decide ((eP (L.getD c ai) (L.getD la ai))<(0:Int))))] fun a d=>tK<|cJ 50 d (fun A=> ?_) fun A=> ?_
   ·have hlo2:c+1=lm∨eP (L.getD (c+1 - 1) ai) (L.getD (la) ai)<0:= .inr A
    have hhi2:=hhi
    refine rS d<|tA 1 c 1<|sE [(10,nV (c+1))] fun a d=>bK ?_
    show ∃m',m'<_∧_
    refine⟨_,?_,c+1,j,rfl,o,(by omega),hlo2,hhi2,ae,d.to⟩
    omega
   ·have hhi2:c=lb∨¬eP (L.getD (c) ai) (L.getD (la) ai)<0:= .inr A
    have hlo2:=s
    refine rP [(11,nV c)] d fun a d=>bK ?_
    show ∃m',m'<_∧_
    refine⟨_,?_,i,c,rfl,o,(by omega),hlo2,hhi2,ae,d.to⟩
    omega
  ·obtain rfl:i=j:=by omega
   refine cX 0 (xT (xT (xB ?_)))
   refine tK<|cS<|qP [(13,nV la)] d fun a d=>cB 2<|cL (fun m a h'=>∃k:Nat,∃M:List Rec,m=i - k∧(Grew (ad.map (fun(x:Addr)=>x.block)) h h')∧(la≤k∧k+1≤i)∧(M.length =n)∧(M.Perm L)∧(Idx M L (lx la k))∧(Own h' (.slice ad n cap) 95 n 39 (a7 M))∧(Fr a 220 [(0,.slice ad n cap),(10,.int .i64 ((i:Nat):Int)),(13,.int .i64 ((k:Nat):Int))])) (i - la) ⟨la,L,rfl,o,(by omega),hLn,(List.Perm.refl _),(Idx.refl _ (Iq la)),ae,d.to⟩ ?_
   clear d a
   clear o
   clear hLn
   clear ae
   rintro m a h6 ⟨k,M,rfl,o,hk,y,hP,hx,ae,d⟩
   refine cS<|qS d<|tU 2 i 1<|sT [(58,.bool (decide (((k:Nat):Int)<((i - 1:Nat):Int))))] fun a d=>cJ 58 d (fun I=> ?_) fun I=> ?_
   ·have J:k+1<i:=by omega
    obtain⟨aa,rfl,bW⟩:=ae.bg (by omega)
    refine cN<|tK<|cS<|cB 3<|cD [0,0,0,0,8,0,0,64,224,480,0,0,3072,7168,16355,32739,65535,131071] 11 mixed d<|mP 15 [0,1,2,3] [.slice (some aa) n cap,nV k,.slice (some aa) n cap,nV k]<|mA 31 4 k 1 ?_
    refine mP 127 [5,6] [.slice (some aa) n cap,nV k]<|mA 255 7 k 1<|mI 511 8 aa n 39 (k+1) ((k+1)*39)<|mY 1023 512 9 (k+1) ai bf (ae.row)<|mP 4095 [10,11] [.slice (some aa) n cap,nV k]<|mI 8191 12 aa n 39 k (k*39)<|mY 16383 8704 13 k ai bf (ae.row) ?_
    refine mI 32767 14 aa n 39 k (k*39)<|iO 65535 65507 15 (Does.cZ (a:=aa) (q:=k*39) (vs:=rcs (M.getD (k+1) ai)) (by kernel_rfl) ae (by show _+39≤_;omega) (dG _)) ?_
    rintro _ h8 ⟨rfl,l,g⟩
    replace o:=o.trans g
    rw[gk bf (by first|omega| (rw[List.length_set];omega))] at l
    clear ae;have ae:=l;clear l g
    refine mI 131071 16 aa n 39 (k+1) ((k+1)*39)<|iO 262143 262143 17 (Does.cZ (a:=aa) (q:=(k+1)*39) (vs:=rcs (M.getD k ai)) (by kernel_rfl) ae (by show _+39≤_;omega) (dG _)) ?_
    rintro _ h9 ⟨rfl,l,g⟩
    replace o:=o.trans g
    rw[gk bf (by first|omega| (rw[List.length_set];omega))] at l
    clear ae;have ae:=l;clear l g
    refine mE [] fun a d=>bK<|tK<|rS d<|tA 1 k 1<|sE [(13,nV (k+1))] fun a d=> ?_
    show ∃m',m'<_∧_
    refine⟨_,?_,k+1,(l_ M k (k+1)),rfl,o,(by omega),((gn M _ _).trans y),((jY (by omega) (by omega)).trans hP),(hx.swp (by omega) (by omega) (zM (by omega))),ae,d.to⟩
    omega
   ·refine cX 2 (xT (xT (xB ?_)))
    refine tK<|cR (yT ?_)
    exact r0 d<|⟨M,Ir y hP hx (by omega) (hm1▸hs2) (by omega) (by omega) (s.imp (fun z=>by omega) id) hhi,ae,o⟩
 ·refine cN<|tK<|cS<|qS d<|tU 2 lb lm<|sT [(80,.bool (decide (((lb - lm:Nat):Int)=(1:Int))))] fun a d=>cJ 80 d (fun B=> ?_) fun B=> ?_
  ·have hm1:lb=lm+1:=by omega
   refine qP [(14,nV la)] d fun a d=>qP [(15,nV lm)] d fun a d=>cS<|cB 4<|cL (fun m a h'=>∃i:Nat,∃j:Nat,m=j - i∧(Grew (ad.map (fun(x:Addr)=>x.block)) h h')∧(la≤i∧i≤j∧j≤lm)∧(i=la∨¬eP (L.getD (lm) ai) (L.getD (i - 1) ai)<0)∧(j=lm∨eP (L.getD (lm) ai) (L.getD (j) ai)<0)∧(Own h' (.slice ad n cap) 95 n 39 (a7 L))∧(Fr a 220 [(0,.slice ad n cap),(2,.int .i64 ((lm:Nat):Int)),(4,.func (.func 107) #[] #[]),(14,.int .i64 ((i:Nat):Int)),(15,.int .i64 ((j:Nat):Int))])) (lm - la) ⟨la,lm,rfl,o,(by omega),(.inl (by omega)),(.inl (by omega)),ae,d.to⟩ ?_
   clear d a
   clear o
   clear ae
   rintro m a K ⟨i,j,rfl,o,hij,s,hhi,ae,d⟩
   refine cS<|qP [(85,.bool (decide (((i:Nat):Int)<((j:Nat):Int))))] d fun a d=>cJ 85 d (fun C=> ?_) fun C=> ?_
   ·obtain⟨aa,rfl,bW⟩:=ae.bg (by omega)
    refine cN<|tK<|cB 5<|qS d<|tA 2 i j<|t1 3 (.int .u64 ((i+j:Nat):Int)) (.int .u64 (IntKind.u64.wrap ((i+j:Nat):Int))) (congrArg (Value.int .u64) (l5 (by omega)))<|t1 4 (.int .u64 (((i+j)/2^1:Nat):Int)) (.int .u64 (Int.fdiv ((i+j:Nat):Int) (2^1))) (congrArg (Value.int .u64) (bL (i+j) 1)) ?_
    refine t1 5 (.int .i64 (((i+j)/2^1:Nat):Int)) (.int .i64 (IntKind.i64.wrap (((i+j)/2^1:Nat):Int))) (congrArg (Value.int .i64) (k7 (by omega) (by omega)))<|sT [(16,nV ((i+j)/2^1))] fun a d=> ?_
    obtain⟨c,hc⟩:∃x,(i+j)/2^1=x:=⟨_,rfl⟩;rw[hc] at d
    have hcb:i≤c∧c<j:=by omega
    refine cS<|cD [0,0,0,6,14,0,0,96,224,511,1023,2047] 17 mixed d<|mP 7 [0,1,2] [.func (.func 107) #[] #[],.slice (some aa) n cap,nV lm]<|mI 15 3 aa n 39 lm (lm*39)<|mY 31 16 4 lm ai bf (ae.row)<|mP 127 [5,6] [.slice (some aa) n cap,nV c]<|mI 255 7 aa n 39 c (c*39) ?_
    refine mY 511 272 8 c ai bf (ae.row)<|iO 1023 1023 9 (Does.call (f:=107) (args:= #[.agg (rcs (L.getD lm ai)).toArray,.agg (rcs (L.getD c ai)).toArray]) (by kernel_rfl) (gG _ (L.getD lm ai) (L.getD c ai))) ?_
    rintro _ N ⟨rfl,g⟩
    replace o:=o.trans (g.but _)
    replace ae:=ae.ext g
    clear g
    refine mP 4095 [10,11] [.bool (decide ((eP (L.getD lm ai) (L.getD c ai))<(0:Int))),.bool (!(decide ((eP (L.getD lm ai) (L.getD c ai))<(0:Int))))]<|mE [(103,.bool (!(decide ((eP (L.getD lm ai) (L.getD c ai))<(0:Int)))))] fun a d=>tK<|cC 103 (!(decide ((eP (L.getD lm ai) (L.getD c ai))<(0:Int)))) d (fun t=> ?_) (fun t=> ?_)
    ·have hlo2:c+1=la∨¬eP (L.getD (lm) ai) (L.getD (c+1 - 1) ai)<0:= .inr (by simpa using t)
     have hhi2:=hhi
     refine rS d<|tA 1 c 1<|sE [(14,nV (c+1))] fun a d=>bK ?_
     show ∃m',m'<_∧_
     refine⟨_,?_,c+1,j,rfl,o,(by omega),hlo2,hhi2,ae,d.to⟩
     omega
    ·have hhi2:c=lm∨eP (L.getD (lm) ai) (L.getD (c) ai)<0:= .inr (by simpa using t)
     have hlo2:=s
     refine rP [(15,nV c)] d fun a d=>bK ?_
     show ∃m',m'<_∧_
     refine⟨_,?_,i,c,rfl,o,(by omega),hlo2,hhi2,ae,d.to⟩
     omega
   ·obtain rfl:i=j:=by omega
    refine cX 4 (xT (xT (xB ?_)))
    refine tK<|cS<|qP [(17,nV lm)] d fun a d=>cB 6<|cL (fun m a h'=>∃k:Nat,∃M:List Rec,m=k+1∧(Grew (ad.map (fun(x:Addr)=>x.block)) h h')∧(i≤k∧k≤lm)∧(M.length =n)∧(M.Perm L)∧(Idx M L (rx lm k))∧(Own h' (.slice ad n cap) 95 n 39 (a7 M))∧(Fr a 220 [(0,.slice ad n cap),(14,.int .i64 ((i:Nat):Int)),(17,.int .i64 ((k:Nat):Int))])) (lm+1) ⟨lm,L,rfl,o,(by omega),hLn,(List.Perm.refl _),(Idx.refl _ (Is lm)),ae,d.to⟩ ?_
    clear d a
    clear o
    clear hLn
    clear ae
    rintro m a O ⟨k,M,rfl,o,hk,y,hP,hx,ae,d⟩
    refine cS<|qP [(110,.bool (decide (((i:Nat):Int)<((k:Nat):Int))))] d fun a d=>cJ 110 d (fun D=> ?_) fun D=> ?_
    ·obtain⟨aa,rfl,bW⟩:=ae.bg (by omega)
     refine cN<|tK<|cS<|cB 7<|cD [0,0,0,0,8,0,0,64,224,480,0,0,3072,7168,16355,32739,65535,131071] 23 mixed d<|mP 15 [0,1,2,3] [.slice (some aa) n cap,nV k,.slice (some aa) n cap,nV k]<|mU 31 4 k 1 ?_
     refine mP 127 [5,6] [.slice (some aa) n cap,nV k]<|mU 255 7 k 1<|mI 511 8 aa n 39 (k - 1) ((k - 1)*39)<|mY 1023 512 9 (k - 1) ai bf (ae.row)<|mP 4095 [10,11] [.slice (some aa) n cap,nV k]<|mI 8191 12 aa n 39 k (k*39)<|mY 16383 8704 13 k ai bf (ae.row) ?_
     refine mI 32767 14 aa n 39 k (k*39)<|iO 65535 65507 15 (Does.cZ (a:=aa) (q:=k*39) (vs:=rcs (M.getD (k - 1) ai)) (by kernel_rfl) ae (by show _+39≤_;omega) (dG _)) ?_
     rintro _ P ⟨rfl,l,g⟩
     replace o:=o.trans g
     rw[gk bf (by first|omega| (rw[List.length_set];omega))] at l
     clear ae;have ae:=l;clear l g
     refine mI 131071 16 aa n 39 (k - 1) ((k - 1)*39)<|iO 262143 262143 17 (Does.cZ (a:=aa) (q:=(k - 1)*39) (vs:=rcs (M.getD k ai)) (by kernel_rfl) ae (by show _+39≤_;omega) (dG _)) ?_
     rintro _ Q ⟨rfl,l,g⟩
     replace o:=o.trans g
     rw[gk bf (by first|omega| (rw[List.length_set];omega))] at l
     clear ae;have ae:=l;clear l g
     refine mE [] fun a d=>bK<|tK<|rS d<|tU 1 k 1<|sE [(17,nV (k - 1))] fun a d=> ?_
     show ∃m',m'<_∧_
     refine⟨_,?_,k - 1,(l_ M k (k - 1)),rfl,o,(by omega),((gn M _ _).trans y),((jY (by omega) (by omega)).trans hP),(hx.swp (by omega) (by omega) (zN (by omega) (by omega))),ae,d.to⟩
     omega
    ·refine cX 6 (xT (xT (xB ?_)))
     refine tK<|cR (yT ?_)
     exact r0 d<|⟨M,by have z:=It y hP hx (by omega) hs1 (by omega) (by omega) s hhi;rwa [←hm1] at z,ae,o⟩
  ·refine cN<|tK<|qS d<|tA 2 la lb<|t1 3 (.int .u64 ((la+lb:Nat):Int)) (.int .u64 (IntKind.u64.wrap ((la+lb:Nat):Int))) (congrArg (Value.int .u64) (l5 (by omega)))<|t1 4 (.int .u64 (((la+lb)/2^1:Nat):Int)) (.int .u64 (Int.fdiv ((la+lb:Nat):Int) (2^1))) (congrArg (Value.int .u64) (bL (la+lb) 1))<|t1 5 (.int .i64 (((la+lb)/2^1:Nat):Int)) (.int .i64 (IntKind.i64.wrap (((la+lb)/2^1:Nat):Int))) (congrArg (Value.int .i64) (k7 (by omega) (by omega))) ?_
   refine sT [(18,nV ((la+lb)/2^1))] fun a d=> ?_
   obtain⟨mid,hmid⟩:∃x,(la+lb)/2^1=x:=⟨_,rfl⟩;rw[hmid] at d
   have hmb:la<mid∧mid<lb:=by omega
   refine qS d<|tA 2 mid lm<|sT [(19,nV (mid+lm))] fun a d=>qP [] d fun a d=>cS<|qP [(140,.bool (decide (((mid:Nat):Int)<((lm:Nat):Int))))] d fun a d=>cJ 140 d (fun E=> ?_) fun E=> ?_
   ·refine qS d<|tU 2 (mid+lm) lb<|sT [(20,nV ((mid+lm) - lb))] fun a d=>rP [(21,nV mid)] d fun a d=>tK<|qS d<|tU 1 (mid+lm) 1 ?_
    refine sT [(22,nV ((mid+lm) - 1))] fun a d=> ?_
    obtain⟨w,hs0⟩:∃x,(mid+lm) - lb=x:=⟨_,rfl⟩;obtain⟨r0,hr0⟩:∃x,mid=x:=⟨_,rfl⟩
    have hsr:(mid<lm∧w+lb=mid+lm∧r0=mid)∨(lm≤mid∧w=la∧r0=lm):=by omega
    have Nj:w≤r0:=by omega
    refine cS<|cB 8<|cL (fun m a h'=>∃i:Nat,∃j:Nat,m=j - i∧(Grew (ad.map (fun(x:Addr)=>x.block)) h h')∧(w≤i∧i≤j∧j≤r0)∧(i=w∨¬eP (L.getD (mid+lm - 1 - (i - 1)) ai) (L.getD (i - 1) ai)<0)∧(j=r0∨eP (L.getD (mid+lm - 1 - (j)) ai) (L.getD (j) ai)<0)∧(Own h' (.slice ad n cap) 95 n 39 (a7 L))∧(Fr a 220 [(0,.slice ad n cap),(1,.int .i64 ((la:Nat):Int)),(2,.int .i64 ((lm:Nat):Int)),(3,.int .i64 ((lb:Nat):Int)),(4,.func (.func 107) #[] #[]),(18,.int .i64 ((mid:Nat):Int)),(19,.int .i64 ((mid+lm:Nat):Int)),(20,.int .i64 ((i:Nat):Int)),(21,.int .i64 ((j:Nat):Int)),(22,.int .i64 (((mid+lm) - 1:Nat):Int))])) (mid - ((mid+lm) - lb)) ⟨(mid+lm) - lb,mid,rfl,o,(by omega),(.inl (by omega)),(.inl (by omega)),ae,d.to⟩ ?_
    clear d a
    clear o
    clear ae
    rintro m a R ⟨i,j,rfl,o,hij,s,hhi,ae,d⟩
    refine cS<|qP [(151,.bool (decide (((i:Nat):Int)<((j:Nat):Int))))] d fun a d=>cJ 151 d (fun F=> ?_) fun F=> ?_
    ·obtain⟨aa,rfl,bW⟩:=ae.bg (by omega)
     refine cN<|tK<|cB 9<|qS d<|tA 2 i j<|t1 3 (.int .u64 ((i+j:Nat):Int)) (.int .u64 (IntKind.u64.wrap ((i+j:Nat):Int))) (congrArg (Value.int .u64) (l5 (by omega)))<|t1 4 (.int .u64 (((i+j)/2^1:Nat):Int)) (.int .u64 (Int.fdiv ((i+j:Nat):Int) (2^1))) (congrArg (Value.int .u64) (bL (i+j) 1)) ?_
     refine t1 5 (.int .i64 (((i+j)/2^1:Nat):Int)) (.int .i64 (IntKind.i64.wrap (((i+j)/2^1:Nat):Int))) (congrArg (Value.int .i64) (k7 (by omega) (by omega)))<|sT [(23,nV ((i+j)/2^1))] fun a d=> ?_
     obtain⟨c,hc⟩:∃x,(i+j)/2^1=x:=⟨_,rfl⟩;rw[hc] at d
     have hcb:i≤c∧c<j:=by omega
     refine cS<|cD [0,0,0,0,12,30,62,0,0,384,896,2047,4095,8191] 35 mixed d<|mP 15 [0,1,2,3] [.func (.func 107) #[] #[],.slice (some aa) n cap,nV ((mid+lm) - 1),nV c]<|mU 31 4 ((mid+lm) - 1) c<|mI 63 5 aa n 39 (((mid+lm) - 1) - c) ((((mid+lm) - 1) - c)*39)<|mY 127 64 6 (((mid+lm) - 1) - c) ai bf (ae.row)<|mP 511 [7,8] [.slice (some aa) n cap,nV c] ?_
     refine mI 1023 9 aa n 39 c (c*39)<|mY 2047 1088 10 c ai bf (ae.row)<|iO 4095 4095 11 (Does.call (f:=107) (args:= #[.agg (rcs (L.getD (((mid+lm) - 1) - c) ai)).toArray,.agg (rcs (L.getD c ai)).toArray]) (by kernel_rfl) (gG _ (L.getD (((mid+lm) - 1) - c) ai) (L.getD c ai))) ?_
     rintro _ S ⟨rfl,g⟩
     replace o:=o.trans (g.but _)
     replace ae:=ae.ext g
     clear g
     refine mP 16383 [12,13] [.bool (decide ((eP (L.getD (((mid+lm) - 1) - c) ai) (L.getD c ai))<(0:Int))),.bool (!(decide ((eP (L.getD (((mid+lm) - 1) - c) ai) (L.getD c ai))<(0:Int))))]<|mE [(171,.bool (!(decide ((eP (L.getD (((mid+lm) - 1) - c) ai) (L.getD c ai))<(0:Int)))))] fun a d=>tK<|cC 171 (!(decide ((eP (L.getD (((mid+lm) - 1) - c) ai) (L.getD c ai))<(0:Int)))) d (fun u=> ?_) (fun u=> ?_)
     ·have hlo2:c+1=w∨¬eP (L.getD (mid+lm - 1 - (c+1 - 1)) ai) (L.getD (c+1 - 1) ai)<0:= .inr (by rw[show mid+lm - 1 - (c+1 - 1)=mid+lm - 1 - c by omega];simpa using u)
      have hhi2:=hhi
      refine rS d<|tA 1 c 1<|sE [(20,nV (c+1))] fun a d=>bK ?_
      show ∃m',m'<_∧_
      refine⟨_,?_,c+1,j,rfl,o,(by omega),hlo2,hhi2,ae,d.to⟩
      omega
     ·have hhi2:c=r0∨eP (L.getD (mid+lm - 1 - (c)) ai) (L.getD (c) ai)<0:= .inr (by simpa using u)
      have hlo2:=s
      refine rP [(21,nV c)] d fun a d=>bK ?_
      show ∃m',m'<_∧_
      refine⟨_,?_,i,c,rfl,o,(by omega),hlo2,hhi2,ae,d.to⟩
      omega
    ·obtain rfl:i=j:=by omega
     refine cX 8 (xT (xT (xB ?_)))
     refine tK<|qS d<|tU 2 (mid+lm) i<|sT [(24,nV ((mid+lm) - i))] fun a d=> ?_
     obtain⟨e,he⟩:∃x,(mid+lm) - i=x:=⟨_,rfl⟩;rw[he] at d
     have ham:la≤i∧i≤lm∧lm≤e∧e≤lb∧i≤mid∧mid≤e∧i+e=mid+lm:=by omega
     have hlo3:i=la∨e=lb∨fP (L.getD (i - 1) ai) (L.getD e ai):=by
      rcases s with z|z
      ·omega
      ·by_cases hi0:i=la
       ·exact .inl hi0
       ·rw[show mid+lm - 1 - (i - 1)=e by omega] at z;exact .inr (.inr (dP z))
     have hhi3:i=lm∨i=mid∨fP (L.getD (e - 1) ai) (L.getD i ai):=by
      rcases hhi with z|z
      ·omega
      ·rw[show mid+lm - 1 - i=e - 1 by omega] at z;exact .inr (.inr (fk z))
     refine cS<|cS ?_
     rcases Nat.lt_or_ge i lm with p|p
     rcases Nat.lt_or_ge lm e with r|r
     ·refine rS d<|tT 2 (((i:Nat):Int)<((lm:Nat):Int))<|tT 6 (((lm:Nat):Int)<((e:Nat):Int))<|sE [(185,.bool true)] fun a d=>tK<|cT 185 d<|rS d ?_
      refine tG 5 (s6 _ ad cap n i lm e L ae hLn (by omega) (by omega) (by omega) (by omega)) ?_
      rintro _ T ⟨BK,y,hP,hx,l,g⟩
      replace o:=o.trans g
      clear ae;have ae:=l;clear l g
      have hcut:Cut n la lm lb mid i e L BK:=⟨y,hP,hx,hs1,hs2,ham,hlo3,hhi3⟩
      refine sE [] fun a d=>tK<|cS<|cS ?_
      rcases Nat.lt_or_ge la i with p|p
      rcases Nat.lt_or_ge i mid with r|r
      ·refine rS d<|tT 2 (((la:Nat):Int)<((i:Nat):Int))<|tT 6 (((i:Nat):Int)<((mid:Nat):Int))<|sE [(199,.bool true)] fun a d=>tK<|cT 199 d<|rS d ?_
       refine tG 5 (ih _ la i mid BK (by omega) ae hcut.len (by omega) (by omega) (by omega) hcut.r1 hcut.r2) ?_
       rintro _ U ⟨Ji,hk,l,g⟩
       replace o:=o.trans g
       clear ae;have ae:=l;clear l g
       refine sE [] fun a d=>tK<|cS ?_
       rcases Nat.lt_or_ge mid e with p|p
       rcases Nat.lt_or_ge e lb with r|r
       ·refine rS d<|tT 2 (((mid:Nat):Int)<((e:Nat):Int))<|tT 6 (((e:Nat):Int)<((lb:Nat):Int))<|sE [(213,.bool true)] fun a d=>tK<|cT 213 d<|rS d ?_
        refine tG 5 (ih _ mid e lb Ji (by omega) ae hk.len (by omega) (by omega) (by omega) (hcut.sort hk).1 (hcut.sort hk).2) ?_
        rintro _ V ⟨Nk,hj,l,g⟩
        replace o:=o.trans g
        clear ae;have ae:=l;clear l g
        exact sE [] fun a d=>n0 d<|⟨Nk,hcut.done hk hj,ae,o⟩
       ·have hj:=hcut.right hk (by omega)
        refine rS d<|tT 2 (((mid:Nat):Int)<((e:Nat):Int))<|tX 6 (((e:Nat):Int)<((lb:Nat):Int))<|sE [(213,.bool false)] fun a d=>tK<|cF 213 d<|cN ?_
        exact n0 d<|⟨Ji,hcut.done hk hj,ae,o⟩
       ·have hj:=hcut.right hk (by omega)
        refine rS d<|tX 2 (((mid:Nat):Int)<((e:Nat):Int))<|sE [(213,.bool false)] fun a d=>tK<|cF 213 d<|cN<|n0 d ?_
        exact⟨Ji,hcut.done hk hj,ae,o⟩
      ·have hk:=hcut.left (by omega)
       refine rS d<|tT 2 (((la:Nat):Int)<((i:Nat):Int))<|tX 6 (((i:Nat):Int)<((mid:Nat):Int))<|sE [(199,.bool false)] fun a d=>tK<|cF 199 d<|cN ?_
       refine tK<|cS ?_
       rcases Nat.lt_or_ge mid e with p|p
       rcases Nat.lt_or_ge e lb with r|r
       ·refine rS d<|tT 2 (((mid:Nat):Int)<((e:Nat):Int))<|tT 6 (((e:Nat):Int)<((lb:Nat):Int))<|sE [(213,.bool true)] fun a d=>tK<|cT 213 d<|rS d ?_
        refine tG 5 (ih _ mid e lb BK (by omega) ae hk.len (by omega) (by omega) (by omega) (hcut.sort hk).1 (hcut.sort hk).2) ?_
        rintro _ W ⟨Nl,hj,l,g⟩
        replace o:=o.trans g
        clear ae;have ae:=l;clear l g
        exact sE [] fun a d=>n0 d<|⟨Nl,hcut.done hk hj,ae,o⟩
       ·have hj:=hcut.right hk (by omega)
        refine rS d<|tT 2 (((mid:Nat):Int)<((e:Nat):Int))<|tX 6 (((e:Nat):Int)<((lb:Nat):Int))<|sE [(213,.bool false)] fun a d=>tK<|cF 213 d<|cN ?_
        exact n0 d<|⟨BK,hcut.done hk hj,ae,o⟩
       ·have hj:=hcut.right hk (by omega)
        refine rS d<|tX 2 (((mid:Nat):Int)<((e:Nat):Int))<|sE [(213,.bool false)] fun a d=>tK<|cF 213 d<|cN<|n0 d ?_
        exact⟨BK,hcut.done hk hj,ae,o⟩
      ·have hk:=hcut.left (by omega)
       refine rS d<|tX 2 (((la:Nat):Int)<((i:Nat):Int))<|sE [(199,.bool false)] fun a d=>tK<|cF 199 d<|cN<|tK ?_
       refine cS ?_
       rcases Nat.lt_or_ge mid e with p|p
       rcases Nat.lt_or_ge e lb with r|r
       ·refine rS d<|tT 2 (((mid:Nat):Int)<((e:Nat):Int))<|tT 6 (((e:Nat):Int)<((lb:Nat):Int))<|sE [(213,.bool true)] fun a d=>tK<|cT 213 d<|rS d ?_
        refine tG 5 (ih _ mid e lb BK (by omega) ae hk.len (by omega) (by omega) (by omega) (hcut.sort hk).1 (hcut.sort hk).2) ?_
        rintro _ X ⟨Nn,hj,l,g⟩
        replace o:=o.trans g
        clear ae;have ae:=l;clear l g
        exact sE [] fun a d=>n0 d<|⟨Nn,hcut.done hk hj,ae,o⟩
       ·have hj:=hcut.right hk (by omega)
        refine rS d<|tT 2 (((mid:Nat):Int)<((e:Nat):Int))<|tX 6 (((e:Nat):Int)<((lb:Nat):Int))<|sE [(213,.bool false)] fun a d=>tK<|cF 213 d<|cN ?_
        exact n0 d<|⟨BK,hcut.done hk hj,ae,o⟩
       ·have hj:=hcut.right hk (by omega)
        refine rS d<|tX 2 (((mid:Nat):Int)<((e:Nat):Int))<|sE [(213,.bool false)] fun a d=>tK<|cF 213 d<|cN<|n0 d ?_
        exact⟨BK,hcut.done hk hj,ae,o⟩
     ·have hcut:Cut n la lm lb mid i e L L:=⟨hLn,List.Perm.refl _,Idx.refl _ (jk (by omega)),hs1,hs2,ham,hlo3,hhi3⟩
      refine rS d<|tT 2 (((i:Nat):Int)<((lm:Nat):Int))<|tX 6 (((lm:Nat):Int)<((e:Nat):Int))<|sE [(185,.bool false)] fun a d=>tK<|cF 185 d<|cN ?_
      refine tK<|cS<|cS ?_
      rcases Nat.lt_or_ge la i with p|p
      rcases Nat.lt_or_ge i mid with r|r
      ·refine rS d<|tT 2 (((la:Nat):Int)<((i:Nat):Int))<|tT 6 (((i:Nat):Int)<((mid:Nat):Int))<|sE [(199,.bool true)] fun a d=>tK<|cT 199 d<|rS d ?_
       refine tG 5 (ih _ la i mid L (by omega) ae hcut.len (by omega) (by omega) (by omega) hcut.r1 hcut.r2) ?_
       rintro _ Y ⟨Jj,hk,l,g⟩
       replace o:=o.trans g
       clear ae;have ae:=l;clear l g
       refine sE [] fun a d=>tK<|cS ?_
       rcases Nat.lt_or_ge mid e with p|p
       rcases Nat.lt_or_ge e lb with r|r
       ·refine rS d<|tT 2 (((mid:Nat):Int)<((e:Nat):Int))<|tT 6 (((e:Nat):Int)<((lb:Nat):Int))<|sE [(213,.bool true)] fun a d=>tK<|cT 213 d<|rS d ?_
        refine tG 5 (ih _ mid e lb Jj (by omega) ae hk.len (by omega) (by omega) (by omega) (hcut.sort hk).1 (hcut.sort hk).2) ?_
        rintro _ Z ⟨No,hj,l,g⟩
        replace o:=o.trans g
        clear ae;have ae:=l;clear l g
        exact sE [] fun a d=>n0 d<|⟨No,hcut.done hk hj,ae,o⟩
       ·have hj:=hcut.right hk (by omega)
        refine rS d<|tT 2 (((mid:Nat):Int)<((e:Nat):Int))<|tX 6 (((e:Nat):Int)<((lb:Nat):Int))<|sE [(213,.bool false)] fun a d=>tK<|cF 213 d<|cN ?_
        exact n0 d<|⟨Jj,hcut.done hk hj,ae,o⟩
       ·have hj:=hcut.right hk (by omega)
        refine rS d<|tX 2 (((mid:Nat):Int)<((e:Nat):Int))<|sE [(213,.bool false)] fun a d=>tK<|cF 213 d<|cN<|n0 d ?_
        exact⟨Jj,hcut.done hk hj,ae,o⟩
      ·have hk:=hcut.left (by omega)
       refine rS d<|tT 2 (((la:Nat):Int)<((i:Nat):Int))<|tX 6 (((i:Nat):Int)<((mid:Nat):Int))<|sE [(199,.bool false)] fun a d=>tK<|cF 199 d<|cN ?_
       refine tK<|cS ?_
       rcases Nat.lt_or_ge mid e with p|p
       rcases Nat.lt_or_ge e lb with r|r
       ·refine rS d<|tT 2 (((mid:Nat):Int)<((e:Nat):Int))<|tT 6 (((e:Nat):Int)<((lb:Nat):Int))<|sE [(213,.bool true)] fun a d=>tK<|cT 213 d<|rS d ?_
        refine tG 5 (ih _ mid e lb L (by omega) ae hk.len (by omega) (by omega) (by omega) (hcut.sort hk).1 (hcut.sort hk).2) ?_
        rintro _ uN ⟨Np,hj,l,g⟩
        replace o:=o.trans g
        clear ae;have ae:=l;clear l g
        exact sE [] fun a d=>n0 d<|⟨Np,hcut.done hk hj,ae,o⟩
       ·have hj:=hcut.right hk (by omega)
        refine rS d<|tT 2 (((mid:Nat):Int)<((e:Nat):Int))<|tX 6 (((e:Nat):Int)<((lb:Nat):Int))<|sE [(213,.bool false)] fun a d=>tK<|cF 213 d<|cN ?_
        exact n0 d<|⟨L,hcut.done hk hj,ae,o⟩
       ·have hj:=hcut.right hk (by omega)
        refine rS d<|tX 2 (((mid:Nat):Int)<((e:Nat):Int))<|sE [(213,.bool false)] fun a d=>tK<|cF 213 d<|cN<|n0 d ?_
        exact⟨L,hcut.done hk hj,ae,o⟩
      ·have hk:=hcut.left (by omega)
       refine rS d<|tX 2 (((la:Nat):Int)<((i:Nat):Int))<|sE [(199,.bool false)] fun a d=>tK<|cF 199 d<|cN<|tK ?_
       refine cS ?_
       rcases Nat.lt_or_ge mid e with p|p
       rcases Nat.lt_or_ge e lb with r|r
       ·refine rS d<|tT 2 (((mid:Nat):Int)<((e:Nat):Int))<|tT 6 (((e:Nat):Int)<((lb:Nat):Int))<|sE [(213,.bool true)] fun a d=>tK<|cT 213 d<|rS d ?_
        refine tG 5 (ih _ mid e lb L (by omega) ae hk.len (by omega) (by omega) (by omega) (hcut.sort hk).1 (hcut.sort hk).2) ?_
        rintro _ vl ⟨Nq,hj,l,g⟩
        replace o:=o.trans g
        clear ae;have ae:=l;clear l g
        exact sE [] fun a d=>n0 d<|⟨Nq,hcut.done hk hj,ae,o⟩
       ·have hj:=hcut.right hk (by omega)
        refine rS d<|tT 2 (((mid:Nat):Int)<((e:Nat):Int))<|tX 6 (((e:Nat):Int)<((lb:Nat):Int))<|sE [(213,.bool false)] fun a d=>tK<|cF 213 d<|cN ?_
        exact n0 d<|⟨L,hcut.done hk hj,ae,o⟩
       ·have hj:=hcut.right hk (by omega)
        refine rS d<|tX 2 (((mid:Nat):Int)<((e:Nat):Int))<|sE [(213,.bool false)] fun a d=>tK<|cF 213 d<|cN<|n0 d ?_
        exact⟨L,hcut.done hk hj,ae,o⟩
     ·have hcut:Cut n la lm lb mid i e L L:=⟨hLn,List.Perm.refl _,Idx.refl _ (jk (by omega)),hs1,hs2,ham,hlo3,hhi3⟩
      refine rS d<|tX 2 (((i:Nat):Int)<((lm:Nat):Int))<|sE [(185,.bool false)] fun a d=>tK<|cF 185 d<|cN<|tK ?_
      refine cS<|cS ?_
      rcases Nat.lt_or_ge la i with p|p
      rcases Nat.lt_or_ge i mid with r|r
      ·refine rS d<|tT 2 (((la:Nat):Int)<((i:Nat):Int))<|tT 6 (((i:Nat):Int)<((mid:Nat):Int))<|sE [(199,.bool true)] fun a d=>tK<|cT 199 d<|rS d ?_
       refine tG 5 (ih _ la i mid L (by omega) ae hcut.len (by omega) (by omega) (by omega) hcut.r1 hcut.r2) ?_
       rintro _ h43 ⟨Jk,hk,l,g⟩
       replace o:=o.trans g
       clear ae;have ae:=l;clear l g
       refine sE [] fun a d=>tK<|cS ?_
       rcases Nat.lt_or_ge mid e with p|p
       rcases Nat.lt_or_ge e lb with r|r
       ·refine rS d<|tT 2 (((mid:Nat):Int)<((e:Nat):Int))<|tT 6 (((e:Nat):Int)<((lb:Nat):Int))<|sE [(213,.bool true)] fun a d=>tK<|cT 213 d<|rS d ?_
        refine tG 5 (ih _ mid e lb Jk (by omega) ae hk.len (by omega) (by omega) (by omega) (hcut.sort hk).1 (hcut.sort hk).2) ?_
        rintro _ h45 ⟨Nr,hj,l,g⟩
        replace o:=o.trans g
        clear ae;have ae:=l;clear l g
        exact sE [] fun a d=>n0 d<|⟨Nr,hcut.done hk hj,ae,o⟩
       ·have hj:=hcut.right hk (by omega)
        refine rS d<|tT 2 (((mid:Nat):Int)<((e:Nat):Int))<|tX 6 (((e:Nat):Int)<((lb:Nat):Int))<|sE [(213,.bool false)] fun a d=>tK<|cF 213 d<|cN ?_
        exact n0 d<|⟨Jk,hcut.done hk hj,ae,o⟩
       ·have hj:=hcut.right hk (by omega)
        refine rS d<|tX 2 (((mid:Nat):Int)<((e:Nat):Int))<|sE [(213,.bool false)] fun a d=>tK<|cF 213 d<|cN<|n0 d ?_
        exact⟨Jk,hcut.done hk hj,ae,o⟩
      ·have hk:=hcut.left (by omega)
       refine rS d<|tT 2 (((la:Nat):Int)<((i:Nat):Int))<|tX 6 (((i:Nat):Int)<((mid:Nat):Int))<|sE [(199,.bool false)] fun a d=>tK<|cF 199 d<|cN ?_
       refine tK<|cS ?_
       rcases Nat.lt_or_ge mid e with p|p
       rcases Nat.lt_or_ge e lb with r|r
       ·refine rS d<|tT 2 (((mid:Nat):Int)<((e:Nat):Int))<|tT 6 (((e:Nat):Int)<((lb:Nat):Int))<|sE [(213,.bool true)] fun a d=>tK<|cT 213 d<|rS d ?_
        refine tG 5 (ih _ mid e lb L (by omega) ae hk.len (by omega) (by omega) (by omega) (hcut.sort hk).1 (hcut.sort hk).2) ?_
        rintro _ h47 ⟨Nt,hj,l,g⟩
        replace o:=o.trans g
        clear ae;have ae:=l;clear l g
        exact sE [] fun a d=>n0 d<|⟨Nt,hcut.done hk hj,ae,o⟩
       ·have hj:=hcut.right hk (by omega)
        refine rS d<|tT 2 (((mid:Nat):Int)<((e:Nat):Int))<|tX 6 (((e:Nat):Int)<((lb:Nat):Int))<|sE [(213,.bool false)] fun a d=>tK<|cF 213 d<|cN ?_
        exact n0 d<|⟨L,hcut.done hk hj,ae,o⟩
       ·have hj:=hcut.right hk (by omega)
        refine rS d<|tX 2 (((mid:Nat):Int)<((e:Nat):Int))<|sE [(213,.bool false)] fun a d=>tK<|cF 213 d<|cN<|n0 d ?_
        exact⟨L,hcut.done hk hj,ae,o⟩
      ·have hk:=hcut.left (by omega)
       refine rS d<|tX 2 (((la:Nat):Int)<((i:Nat):Int))<|sE [(199,.bool false)] fun a d=>tK<|cF 199 d<|cN<|tK ?_
       refine cS ?_
       rcases Nat.lt_or_ge mid e with p|p
       rcases Nat.lt_or_ge e lb with r|r
       ·refine rS d<|tT 2 (((mid:Nat):Int)<((e:Nat):Int))<|tT 6 (((e:Nat):Int)<((lb:Nat):Int))<|sE [(213,.bool true)] fun a d=>tK<|cT 213 d<|rS d ?_
        refine tG 5 (ih _ mid e lb L (by omega) ae hk.len (by omega) (by omega) (by omega) (hcut.sort hk).1 (hcut.sort hk).2) ?_
        rintro _ D_ ⟨Nu,hj,l,g⟩
        replace o:=o.trans g
        clear ae;have ae:=l;clear l g
        exact sE [] fun a d=>n0 d<|⟨Nu,hcut.done hk hj,ae,o⟩
       ·have hj:=hcut.right hk (by omega)
        refine rS d<|tT 2 (((mid:Nat):Int)<((e:Nat):Int))<|tX 6 (((e:Nat):Int)<((lb:Nat):Int))<|sE [(213,.bool false)] fun a d=>tK<|cF 213 d<|cN ?_
        exact n0 d<|⟨L,hcut.done hk hj,ae,o⟩
       ·have hj:=hcut.right hk (by omega)
        refine rS d<|tX 2 (((mid:Nat):Int)<((e:Nat):Int))<|sE [(213,.bool false)] fun a d=>tK<|cF 213 d<|cN<|n0 d ?_
        exact⟨L,hcut.done hk hj,ae,o⟩
   ·refine qP [(20,nV la)] d fun a d=>rP [(21,nV lm)] d fun a d=>tK<|qS d<|tU 1 (mid+lm) 1<|sT [(22,nV ((mid+lm) - 1))] fun a d=> ?_
    obtain⟨w,hs0⟩:∃x,la=x:=⟨_,rfl⟩;obtain⟨r0,hr0⟩:∃x,lm=x:=⟨_,rfl⟩
    refine cS<|cB 8<|cL (fun m a h'=>∃i:Nat,∃j:Nat,m=j - i∧(Grew (ad.map (fun(x:Addr)=>x.block)) h h')∧(w≤i∧i≤j∧j≤r0)∧(i=w∨¬eP (L.getD (mid+lm - 1 - (i - 1)) ai) (L.getD (i - 1) ai)<0)∧(j=r0∨eP (L.getD (mid+lm - 1 - (j)) ai) (L.getD (j) ai)<0)∧(Own h' (.slice ad n cap) 95 n 39 (a7 L))∧(Fr a 220 [(0,.slice ad n cap),(1,.int .i64 ((la:Nat):Int)),(2,.int .i64 ((lm:Nat):Int)),(3,.int .i64 ((lb:Nat):Int)),(4,.func (.func 107) #[] #[]),(18,.int .i64 ((mid:Nat):Int)),(19,.int .i64 ((mid+lm:Nat):Int)),(20,.int .i64 ((i:Nat):Int)),(21,.int .i64 ((j:Nat):Int)),(22,.int .i64 (((mid+lm) - 1:Nat):Int))])) (lm - la) ⟨la,lm,rfl,o,(by omega),(.inl (by omega)),(.inl (by omega)),ae,d.to⟩ ?_
    clear d a
    clear o
    clear ae
    rintro m a h50 ⟨i,j,rfl,o,hij,s,hhi,ae,d⟩
    refine cS<|qP [(151,.bool (decide (((i:Nat):Int)<((j:Nat):Int))))] d fun a d=>cJ 151 d (fun G=> ?_) fun G=> ?_
    ·obtain⟨aa,rfl,bW⟩:=ae.bg (by omega)
     refine cN<|tK<|cB 9<|qS d<|tA 2 i j<|t1 3 (.int .u64 ((i+j:Nat):Int)) (.int .u64 (IntKind.u64.wrap ((i+j:Nat):Int))) (congrArg (Value.int .u64) (l5 (by omega)))<|t1 4 (.int .u64 (((i+j)/2^1:Nat):Int)) (.int .u64 (Int.fdiv ((i+j:Nat):Int) (2^1))) (congrArg (Value.int .u64) (bL (i+j) 1)) ?_
     refine t1 5 (.int .i64 (((i+j)/2^1:Nat):Int)) (.int .i64 (IntKind.i64.wrap (((i+j)/2^1:Nat):Int))) (congrArg (Value.int .i64) (k7 (by omega) (by omega)))<|sT [(23,nV ((i+j)/2^1))] fun a d=> ?_
     obtain⟨c,hc⟩:∃x,(i+j)/2^1=x:=⟨_,rfl⟩;rw[hc] at d
     have hcb:i≤c∧c<j:=by omega
     refine cS<|cD [0,0,0,0,12,30,62,0,0,384,896,2047,4095,8191] 35 mixed d<|mP 15 [0,1,2,3] [.func (.func 107) #[] #[],.slice (some aa) n cap,nV ((mid+lm) - 1),nV c]<|mU 31 4 ((mid+lm) - 1) c<|mI 63 5 aa n 39 (((mid+lm) - 1) - c) ((((mid+lm) - 1) - c)*39)<|mY 127 64 6 (((mid+lm) - 1) - c) ai bf (ae.row)<|mP 511 [7,8] [.slice (some aa) n cap,nV c] ?_
     refine mI 1023 9 aa n 39 c (c*39)<|mY 2047 1088 10 c ai bf (ae.row)<|iO 4095 4095 11 (Does.call (f:=107) (args:= #[.agg (rcs (L.getD (((mid+lm) - 1) - c) ai)).toArray,.agg (rcs (L.getD c ai)).toArray]) (by kernel_rfl) (gG _ (L.getD (((mid+lm) - 1) - c) ai) (L.getD c ai))) ?_
     rintro _ HX ⟨rfl,g⟩
     replace o:=o.trans (g.but _)
     replace ae:=ae.ext g
     clear g
     refine mP 16383 [12,13] [.bool (decide ((eP (L.getD (((mid+lm) - 1) - c) ai) (L.getD c ai))<(0:Int))),.bool (!(decide ((eP (L.getD (((mid+lm) - 1) - c) ai) (L.getD c ai))<(0:Int))))]<|mE [(171,.bool (!(decide ((eP (L.getD (((mid+lm) - 1) - c) ai) (L.getD c ai))<(0:Int)))))] fun a d=>tK<|cC 171 (!(decide ((eP (L.getD (((mid+lm) - 1) - c) ai) (L.getD c ai))<(0:Int)))) d (fun v=> ?_) (fun v=> ?_)
     ·have hlo2:c+1=w∨¬eP (L.getD (mid+lm - 1 - (c+1 - 1)) ai) (L.getD (c+1 - 1) ai)<0:= .inr (by rw[show mid+lm - 1 - (c+1 - 1)=mid+lm - 1 - c by omega];simpa using v)
      have hhi2:=hhi
      refine rS d<|tA 1 c 1<|sE [(20,nV (c+1))] fun a d=>bK ?_
      show ∃m',m'<_∧_
      refine⟨_,?_,c+1,j,rfl,o,(by omega),hlo2,hhi2,ae,d.to⟩
      omega
     ·have hhi2:c=r0∨eP (L.getD (mid+lm - 1 - (c)) ai) (L.getD (c) ai)<0:= .inr (by simpa using v)
      have hlo2:=s
      refine rP [(21,nV c)] d fun a d=>bK ?_
      show ∃m',m'<_∧_
      refine⟨_,?_,i,c,rfl,o,(by omega),hlo2,hhi2,ae,d.to⟩
      omega
    ·obtain rfl:i=j:=by omega
     refine cX 8 (xT (xT (xB ?_)))
     refine tK<|qS d<|tU 2 (mid+lm) i<|sT [(24,nV ((mid+lm) - i))] fun a d=> ?_
     obtain⟨e,he⟩:∃x,(mid+lm) - i=x:=⟨_,rfl⟩;rw[he] at d
     have ham:la≤i∧i≤lm∧lm≤e∧e≤lb∧i≤mid∧mid≤e∧i+e=mid+lm:=by omega
     have hlo3:i=la∨e=lb∨fP (L.getD (i - 1) ai) (L.getD e ai):=by
      rcases s with z|z
      ·omega
      ·by_cases hi0:i=la
       ·exact .inl hi0
       ·rw[show mid+lm - 1 - (i - 1)=e by omega] at z;exact .inr (.inr (dP z))
     have hhi3:i=lm∨i=mid∨fP (L.getD (e - 1) ai) (L.getD i ai):=by
      rcases hhi with z|z
      ·omega
      ·rw[show mid+lm - 1 - i=e - 1 by omega] at z;exact .inr (.inr (fk z))
     refine cS<|cS ?_
     rcases Nat.lt_or_ge i lm with p|p
     rcases Nat.lt_or_ge lm e with r|r
     ·refine rS d<|tT 2 (((i:Nat):Int)<((lm:Nat):Int))<|tT 6 (((lm:Nat):Int)<((e:Nat):Int))<|sE [(185,.bool true)] fun a d=>tK<|cT 185 d<|rS d ?_
      refine tG 5 (s6 _ ad cap n i lm e L ae hLn (by omega) (by omega) (by omega) (by omega)) ?_
      rintro _ Da ⟨BL,y,hP,hx,l,g⟩
      replace o:=o.trans g
      clear ae;have ae:=l;clear l g
      have hcut:Cut n la lm lb mid i e L BL:=⟨y,hP,hx,hs1,hs2,ham,hlo3,hhi3⟩
      refine sE [] fun a d=>tK<|cS<|cS ?_
      rcases Nat.lt_or_ge la i with p|p
      rcases Nat.lt_or_ge i mid with r|r
      ·refine rS d<|tT 2 (((la:Nat):Int)<((i:Nat):Int))<|tT 6 (((i:Nat):Int)<((mid:Nat):Int))<|sE [(199,.bool true)] fun a d=>tK<|cT 199 d<|rS d ?_
       refine tG 5 (ih _ la i mid BL (by omega) ae hcut.len (by omega) (by omega) (by omega) hcut.r1 hcut.r2) ?_
       rintro _ h57 ⟨Jl,hk,l,g⟩
       replace o:=o.trans g
       clear ae;have ae:=l;clear l g
       refine sE [] fun a d=>tK<|cS ?_
       rcases Nat.lt_or_ge mid e with p|p
       rcases Nat.lt_or_ge e lb with r|r
       ·refine rS d<|tT 2 (((mid:Nat):Int)<((e:Nat):Int))<|tT 6 (((e:Nat):Int)<((lb:Nat):Int))<|sE [(213,.bool true)] fun a d=>tK<|cT 213 d<|rS d ?_
        refine tG 5 (ih _ mid e lb Jl (by omega) ae hk.len (by omega) (by omega) (by omega) (hcut.sort hk).1 (hcut.sort hk).2) ?_
        rintro _ Hw ⟨Nv,hj,l,g⟩
        replace o:=o.trans g
        clear ae;have ae:=l;clear l g
        exact sE [] fun a d=>n0 d<|⟨Nv,hcut.done hk hj,ae,o⟩
       ·have hj:=hcut.right hk (by omega)
        refine rS d<|tT 2 (((mid:Nat):Int)<((e:Nat):Int))<|tX 6 (((e:Nat):Int)<((lb:Nat):Int))<|sE [(213,.bool false)] fun a d=>tK<|cF 213 d<|cN ?_
        exact n0 d<|⟨Jl,hcut.done hk hj,ae,o⟩
       ·have hj:=hcut.right hk (by omega)
        refine rS d<|tX 2 (((mid:Nat):Int)<((e:Nat):Int))<|sE [(213,.bool false)] fun a d=>tK<|cF 213 d<|cN<|n0 d ?_
        exact⟨Jl,hcut.done hk hj,ae,o⟩
      ·have hk:=hcut.left (by omega)
       refine rS d<|tT 2 (((la:Nat):Int)<((i:Nat):Int))<|tX 6 (((i:Nat):Int)<((mid:Nat):Int))<|sE [(199,.bool false)] fun a d=>tK<|cF 199 d<|cN ?_
       refine tK<|cS ?_
       rcases Nat.lt_or_ge mid e with p|p
       rcases Nat.lt_or_ge e lb with r|r
       ·refine rS d<|tT 2 (((mid:Nat):Int)<((e:Nat):Int))<|tT 6 (((e:Nat):Int)<((lb:Nat):Int))<|sE [(213,.bool true)] fun a d=>tK<|cT 213 d<|rS d ?_
        refine tG 5 (ih _ mid e lb BL (by omega) ae hk.len (by omega) (by omega) (by omega) (hcut.sort hk).1 (hcut.sort hk).2) ?_
        rintro _ Ja ⟨Nw,hj,l,g⟩
        replace o:=o.trans g
        clear ae;have ae:=l;clear l g
        exact sE [] fun a d=>n0 d<|⟨Nw,hcut.done hk hj,ae,o⟩
       ·have hj:=hcut.right hk (by omega)
        refine rS d<|tT 2 (((mid:Nat):Int)<((e:Nat):Int))<|tX 6 (((e:Nat):Int)<((lb:Nat):Int))<|sE [(213,.bool false)] fun a d=>tK<|cF 213 d<|cN ?_
        exact n0 d<|⟨BL,hcut.done hk hj,ae,o⟩
       ·have hj:=hcut.right hk (by omega)
        refine rS d<|tX 2 (((mid:Nat):Int)<((e:Nat):Int))<|sE [(213,.bool false)] fun a d=>tK<|cF 213 d<|cN<|n0 d ?_
        exact⟨BL,hcut.done hk hj,ae,o⟩
      ·have hk:=hcut.left (by omega)
       refine rS d<|tX 2 (((la:Nat):Int)<((i:Nat):Int))<|sE [(199,.bool false)] fun a d=>tK<|cF 199 d<|cN<|tK ?_
       refine cS ?_
       rcases Nat.lt_or_ge mid e with p|p
       rcases Nat.lt_or_ge e lb with r|r
       ·refine rS d<|tT 2 (((mid:Nat):Int)<((e:Nat):Int))<|tT 6 (((e:Nat):Int)<((lb:Nat):Int))<|sE [(213,.bool true)] fun a d=>tK<|cT 213 d<|rS d ?_
        refine tG 5 (ih _ mid e lb BL (by omega) ae hk.len (by omega) (by omega) (by omega) (hcut.sort hk).1 (hcut.sort hk).2) ?_
        rintro _ h63 ⟨Nx,hj,l,g⟩
        replace o:=o.trans g
        clear ae;have ae:=l;clear l g
        exact sE [] fun a d=>n0 d<|⟨Nx,hcut.done hk hj,ae,o⟩
       ·have hj:=hcut.right hk (by omega)
        refine rS d<|tT 2 (((mid:Nat):Int)<((e:Nat):Int))<|tX 6 (((e:Nat):Int)<((lb:Nat):Int))<|sE [(213,.bool false)] fun a d=>tK<|cF 213 d<|cN ?_
        exact n0 d<|⟨BL,hcut.done hk hj,ae,o⟩
       ·have hj:=hcut.right hk (by omega)
        refine rS d<|tX 2 (((mid:Nat):Int)<((e:Nat):Int))<|sE [(213,.bool false)] fun a d=>tK<|cF 213 d<|cN<|n0 d ?_
        exact⟨BL,hcut.done hk hj,ae,o⟩
     ·have hcut:Cut n la lm lb mid i e L L:=⟨hLn,List.Perm.refl _,Idx.refl _ (jk (by omega)),hs1,hs2,ham,hlo3,hhi3⟩
      refine rS d<|tT 2 (((i:Nat):Int)<((lm:Nat):Int))<|tX 6 (((lm:Nat):Int)<((e:Nat):Int))<|sE [(185,.bool false)] fun a d=>tK<|cF 185 d<|cN ?_
      refine tK<|cS<|cS ?_
      rcases Nat.lt_or_ge la i with p|p
      rcases Nat.lt_or_ge i mid with r|r
      ·refine rS d<|tT 2 (((la:Nat):Int)<((i:Nat):Int))<|tT 6 (((i:Nat):Int)<((mid:Nat):Int))<|sE [(199,.bool true)] fun a d=>tK<|cT 199 d<|rS d ?_
       refine tG 5 (ih _ la i mid L (by omega) ae hcut.len (by omega) (by omega) (by omega) hcut.r1 hcut.r2) ?_
       rintro _ h65 ⟨fw,hk,l,g⟩
       replace o:=o.trans g
       clear ae;have ae:=l;clear l g
       refine sE [] fun a d=>tK<|cS ?_
       rcases Nat.lt_or_ge mid e with p|p
       rcases Nat.lt_or_ge e lb with r|r
       ·refine rS d<|tT 2 (((mid:Nat):Int)<((e:Nat):Int))<|tT 6 (((e:Nat):Int)<((lb:Nat):Int))<|sE [(213,.bool true)] fun a d=>tK<|cT 213 d<|rS d ?_
        refine tG 5 (ih _ mid e lb fw (by omega) ae hk.len (by omega) (by omega) (by omega) (hcut.sort hk).1 (hcut.sort hk).2) ?_
        rintro _ IX ⟨Ny,hj,l,g⟩
        replace o:=o.trans g
        clear ae;have ae:=l;clear l g
        exact sE [] fun a d=>n0 d<|⟨Ny,hcut.done hk hj,ae,o⟩
       ·have hj:=hcut.right hk (by omega)
        refine rS d<|tT 2 (((mid:Nat):Int)<((e:Nat):Int))<|tX 6 (((e:Nat):Int)<((lb:Nat):Int))<|sE [(213,.bool false)] fun a d=>tK<|cF 213 d<|cN ?_
        exact n0 d<|⟨fw,hcut.done hk hj,ae,o⟩
       ·have hj:=hcut.right hk (by omega)
        refine rS d<|tX 2 (((mid:Nat):Int)<((e:Nat):Int))<|sE [(213,.bool false)] fun a d=>tK<|cF 213 d<|cN<|n0 d ?_
        exact⟨fw,hcut.done hk hj,ae,o⟩
      ·have hk:=hcut.left (by omega)
       refine rS d<|tT 2 (((la:Nat):Int)<((i:Nat):Int))<|tX 6 (((i:Nat):Int)<((mid:Nat):Int))<|sE [(199,.bool false)] fun a d=>tK<|cF 199 d<|cN ?_
       refine tK<|cS ?_
       rcases Nat.lt_or_ge mid e with p|p
       rcases Nat.lt_or_ge e lb with r|r
       ·refine rS d<|tT 2 (((mid:Nat):Int)<((e:Nat):Int))<|tT 6 (((e:Nat):Int)<((lb:Nat):Int))<|sE [(213,.bool true)] fun a d=>tK<|cT 213 d<|rS d ?_
        refine tG 5 (ih _ mid e lb L (by omega) ae hk.len (by omega) (by omega) (by omega) (hcut.sort hk).1 (hcut.sort hk).2) ?_
        rintro _ II ⟨Nz,hj,l,g⟩
        replace o:=o.trans g
        clear ae;have ae:=l;clear l g
        exact sE [] fun a d=>n0 d<|⟨Nz,hcut.done hk hj,ae,o⟩
       ·have hj:=hcut.right hk (by omega)
        refine rS d<|tT 2 (((mid:Nat):Int)<((e:Nat):Int))<|tX 6 (((e:Nat):Int)<((lb:Nat):Int))<|sE [(213,.bool false)] fun a d=>tK<|cF 213 d<|cN ?_
        exact n0 d<|⟨L,hcut.done hk hj,ae,o⟩
       ·have hj:=hcut.right hk (by omega)
        refine rS d<|tX 2 (((mid:Nat):Int)<((e:Nat):Int))<|sE [(213,.bool false)] fun a d=>tK<|cF 213 d<|cN<|n0 d ?_
        exact⟨L,hcut.done hk hj,ae,o⟩
      ·have hk:=hcut.left (by omega)
       refine rS d<|tX 2 (((la:Nat):Int)<((i:Nat):Int))<|sE [(199,.bool false)] fun a d=>tK<|cF 199 d<|cN<|tK ?_
       refine cS ?_
       rcases Nat.lt_or_ge mid e with p|p
       rcases Nat.lt_or_ge e lb with r|r
       ·refine rS d<|tT 2 (((mid:Nat):Int)<((e:Nat):Int))<|tT 6 (((e:Nat):Int)<((lb:Nat):Int))<|sE [(213,.bool true)] fun a d=>tK<|cT 213 d<|rS d ?_
        refine tG 5 (ih _ mid e lb L (by omega) ae hk.len (by omega) (by omega) (by omega) (hcut.sort hk).1 (hcut.sort hk).2) ?_
        rintro _ IK ⟨NA,hj,l,g⟩
        replace o:=o.trans g
        clear ae;have ae:=l;clear l g
        exact sE [] fun a d=>n0 d<|⟨NA,hcut.done hk hj,ae,o⟩
       ·have hj:=hcut.right hk (by omega)
        refine rS d<|tT 2 (((mid:Nat):Int)<((e:Nat):Int))<|tX 6 (((e:Nat):Int)<((lb:Nat):Int))<|sE [(213,.bool false)] fun a d=>tK<|cF 213 d<|cN ?_
        exact n0 d<|⟨L,hcut.done hk hj,ae,o⟩
       ·have hj:=hcut.right hk (by omega)
        refine rS d<|tX 2 (((mid:Nat):Int)<((e:Nat):Int))<|sE [(213,.bool false)] fun a d=>tK<|cF 213 d<|cN<|n0 d ?_
        exact⟨L,hcut.done hk hj,ae,o⟩
     ·have hcut:Cut n la lm lb mid i e L L:=⟨hLn,List.Perm.refl _,Idx.refl _ (jk (by omega)),hs1,hs2,ham,hlo3,hhi3⟩
      refine rS d<|tX 2 (((i:Nat):Int)<((lm:Nat):Int))<|sE [(185,.bool false)] fun a d=>tK<|cF 185 d<|cN<|tK ?_
      refine cS<|cS ?_
      rcases Nat.lt_or_ge la i with p|p
      rcases Nat.lt_or_ge i mid with r|r
      ·refine rS d<|tT 2 (((la:Nat):Int)<((i:Nat):Int))<|tT 6 (((i:Nat):Int)<((mid:Nat):Int))<|sE [(199,.bool true)] fun a d=>tK<|cT 199 d<|rS d ?_
       refine tG 5 (ih _ la i mid L (by omega) ae hcut.len (by omega) (by omega) (by omega) hcut.r1 hcut.r2) ?_
       rintro _ zu ⟨Jm,hk,l,g⟩
       replace o:=o.trans g
       clear ae;have ae:=l;clear l g
       refine sE [] fun a d=>tK<|cS ?_
       rcases Nat.lt_or_ge mid e with p|p
       rcases Nat.lt_or_ge e lb with r|r
       ·refine rS d<|tT 2 (((mid:Nat):Int)<((e:Nat):Int))<|tT 6 (((e:Nat):Int)<((lb:Nat):Int))<|sE [(213,.bool true)] fun a d=>tK<|cT 213 d<|rS d ?_
        refine tG 5 (ih _ mid e lb Jm (by omega) ae hk.len (by omega) (by omega) (by omega) (hcut.sort hk).1 (hcut.sort hk).2) ?_
        rintro _ Ax ⟨NB,hj,l,g⟩
        replace o:=o.trans g
        clear ae;have ae:=l;clear l g
        exact sE [] fun a d=>n0 d<|⟨NB,hcut.done hk hj,ae,o⟩
       ·have hj:=hcut.right hk (by omega)
        refine rS d<|tT 2 (((mid:Nat):Int)<((e:Nat):Int))<|tX 6 (((e:Nat):Int)<((lb:Nat):Int))<|sE [(213,.bool false)] fun a d=>tK<|cF 213 d<|cN ?_
        exact n0 d<|⟨Jm,hcut.done hk hj,ae,o⟩
       ·have hj:=hcut.right hk (by omega)
        refine rS d<|tX 2 (((mid:Nat):Int)<((e:Nat):Int))<|sE [(213,.bool false)] fun a d=>tK<|cF 213 d<|cN<|n0 d ?_
        exact⟨Jm,hcut.done hk hj,ae,o⟩
      ·have hk:=hcut.left (by omega)
       refine rS d<|tT 2 (((la:Nat):Int)<((i:Nat):Int))<|tX 6 (((i:Nat):Int)<((mid:Nat):Int))<|sE [(199,.bool false)] fun a d=>tK<|cF 199 d<|cN ?_
       refine tK<|cS ?_
       rcases Nat.lt_or_ge mid e with p|p
       rcases Nat.lt_or_ge e lb with r|r
       ·refine rS d<|tT 2 (((mid:Nat):Int)<((e:Nat):Int))<|tT 6 (((e:Nat):Int)<((lb:Nat):Int))<|sE [(213,.bool true)] fun a d=>tK<|cT 213 d<|rS d ?_
        refine tG 5 (ih _ mid e lb L (by omega) ae hk.len (by omega) (by omega) (by omega) (hcut.sort hk).1 (hcut.sort hk).2) ?_
        rintro _ NC ⟨ND,hj,l,g⟩
        replace o:=o.trans g
        clear ae;have ae:=l;clear l g
        exact sE [] fun a d=>n0 d<|⟨ND,hcut.done hk hj,ae,o⟩
       ·have hj:=hcut.right hk (by omega)
        refine rS d<|tT 2 (((mid:Nat):Int)<((e:Nat):Int))<|tX 6 (((e:Nat):Int)<((lb:Nat):Int))<|sE [(213,.bool false)] fun a d=>tK<|cF 213 d<|cN ?_
        exact n0 d<|⟨L,hcut.done hk hj,ae,o⟩
       ·have hj:=hcut.right hk (by omega)
        refine rS d<|tX 2 (((mid:Nat):Int)<((e:Nat):Int))<|sE [(213,.bool false)] fun a d=>tK<|cF 213 d<|cN<|n0 d ?_
        exact⟨L,hcut.done hk hj,ae,o⟩
      ·have hk:=hcut.left (by omega)
       refine rS d<|tX 2 (((la:Nat):Int)<((i:Nat):Int))<|sE [(199,.bool false)] fun a d=>tK<|cF 199 d<|cN<|tK ?_
       refine cS ?_
       rcases Nat.lt_or_ge mid e with p|p
       rcases Nat.lt_or_ge e lb with r|r
       ·refine rS d<|tT 2 (((mid:Nat):Int)<((e:Nat):Int))<|tT 6 (((e:Nat):Int)<((lb:Nat):Int))<|sE [(213,.bool true)] fun a d=>tK<|cT 213 d<|rS d ?_
        refine tG 5 (ih _ mid e lb L (by omega) ae hk.len (by omega) (by omega) (by omega) (hcut.sort hk).1 (hcut.sort hk).2) ?_
        rintro _ NF ⟨NG,hj,l,g⟩
        replace o:=o.trans g
        clear ae;have ae:=l;clear l g
        exact sE [] fun a d=>n0 d<|⟨NG,hcut.done hk hj,ae,o⟩
       ·have hj:=hcut.right hk (by omega)
        refine rS d<|tT 2 (((mid:Nat):Int)<((e:Nat):Int))<|tX 6 (((e:Nat):Int)<((lb:Nat):Int))<|sE [(213,.bool false)] fun a d=>tK<|cF 213 d<|cN ?_
        exact n0 d<|⟨L,hcut.done hk hj,ae,o⟩
       ·have hj:=hcut.right hk (by omega)
        refine rS d<|tX 2 (((mid:Nat):Int)<((e:Nat):Int))<|sE [(213,.bool false)] fun a d=>tK<|cF 213 d<|cN<|n0 d ?_
        exact⟨L,hcut.done hk hj,ae,o⟩
theorem s7(ad:Option Addr)(cap n:Nat)(hn:n≤1099511627776):∀(k:Nat),∀(h:Heap) (a m b:Nat) (L:List Rec),b - a≤k→Own h (.slice ad n cap) 95 n 39 (a7 L)→L.length =n→a<m→m<b→b≤n→bq L a m→bq L m b→Sat Tryz.prog 140 #[.slice ad n cap,.int .i64 ((a:Nat):Int),.int .i64 ((m:Nat):Int),.int .i64 ((b:Nat):Int),.func (.func 107) #[] #[]] h fun _ h'=>∃M,o_ n a b L M∧Own h' (.slice ad n cap) 95 n 39 (a7 M)∧Grew (ad.map (fun(x:Addr)=>x.block)) h h'
 |0,_,_,_,_,_,hk,_,_,h1,h2,_,_,_=>by omega
 |k+1,h,a,m,b,L,hk,o,hL,h1,h2,h3,h4,h5=>w9 h ad cap n a m b L o hL h1 h2 h3 hn h4 h5 fun h a' m' b' L hlt=>s7 ad cap n hn k h a' m' b' L (by omega)
theorem s8(ad:Option Addr)(cap n:Nat)(hn:n≤1099511627776):∀(h:Heap) (a m b:Nat) (L:List Rec),Own h (.slice ad n cap) 95 n 39 (a7 L)→L.length =n→a<m→m<b→b≤n→bq L a m→bq L m b→Sat Tryz.prog 140 #[.slice ad n cap,.int .i64 ((a:Nat):Int),.int .i64 ((m:Nat):Int),.int .i64 ((b:Nat):Int),.func (.func 107) #[] #[]] h fun _ h'=>∃M,o_ n a b L M∧Own h' (.slice ad n cap) 95 n 39 (a7 M)∧Grew (ad.map (fun(x:Addr)=>x.block)) h h':=fun h a m b L=>s7 ad cap n hn (b - a) h a m b L (Nat.le_refl _)
end Go.Proofs.YtegkejcglfgpmaaGreatDoor
end
