/- The walks and the plain laws, part 3: TreeE, TreeG, TreeH, ChkA, ChkB, MdlAns, MdlEq, MdlJdg, MdlLaw, ReadM, RMath, RetA, RetB, RetC, MdlA, Ref11, RA, MdlB, MdlC, MdlD, RetF, RetS, RetM. Conditions: those that each theorem names. -/
import Derived.Test.YtegkejcglfgpmaaGreatDoorPt2
section
namespace Go.Proofs.YtegkejcglfgpmaaGreatDoor
open Go Go.ai Go.aL
noncomputable def Fq:Code:=Tryz.f118.body.getD .skip
def len8:ByteArray:=⟨#[0,1,2,2,3,3,3,3,4,4,4,4,4,4,4,4,5,5,5,5,5,5,5,5,5,5,5,5,5,5,5,5,6,6,6,6,6,6,6,6,6,6,6,6,6,6,6,6,6,6,6,6,6,6,6,6,6,6,6,6,6,6,6,6,7,7,7,7,7,7,7,7,7,7,7,7,7,7,7,7,7,7,7,7,7,7,7,7,7,7,7,7,7,7,7,7,7,7,7,7,7,7,7,7,7,7,7,7,7,7,7,7,7,7,7,7,7,7,7,7,7,7,7,7,7,7,7,7,8,8,8,8,8,8,8,8,8,8,8,8,8,8,8,8,8,8,8,8,8,8,8,8,8,8,8,8,8,8,8,8,8,8,8,8,8,8,8,8,8,8,8,8,8,8,8,8,8,8,8,8,8,8,8,8,8,8,8,8,8,8,8,8,8,8,8,8,8,8,8,8,8,8,8,8,8,8,8,8,8,8,8,8,8,8,8,8,8,8,8,8,8,8,8,8,8,8,8,8,8,8,8,8,8,8,8,8,8,8,8,8,8,8,8,8,8,8,8,8,8,8,8,8,8,8,8,8]⟩
theorem len8_get:∀y,y<256→len8[y]? =some (UInt8.ofNat (aD y)):=by decide+kernel
theorem vf(h:Heap)(x:Nat)(hx:x<18446744073709551616):Sat Tryz.prog 118 #[.int .u64 ((x:Nat):Int)] h fun v h'=>v= .int .i64 ((aD x:Nat):Int)∧h'=h:=by
 refine ag Tryz.func118 25 fun a b=>qP [(2,.int .i64 0)] b fun a b=>cS<|qP [(4,.bool (decide ((4294967296:Int)≤((x:Nat):Int))))] b fun a b=>cJ 4 b (fun j=> ?_) fun j=> ?_
 ·have u:2^32≤(x):=by omega
  refine qS b<|t1 1 (.int .u64 ((x/2^32:Nat):Int)) (.int .u64 (Int.fdiv ((x:Nat):Int) (2^32))) (congrArg (Value.int .u64) (bM (x) 32))<|sT [(0,.int .u64 ((x/2^32:Nat):Int))] fun a b=>rP [(2,.int .i64 32)] b fun a b=>tK<|cS<|qP [(8,.bool (decide ((65536:Int)≤((x/2^32:Nat):Int))))] b fun a b=> ?_
  refine cJ 8 b (fun l=> ?_) fun l=> ?_
  ·have i:2^16≤(x/2^32):=by omega
   refine qS b<|t1 1 (.int .u64 (((x/2^32)/2^16:Nat):Int)) (.int .u64 (Int.fdiv ((x/2^32:Nat):Int) (2^16))) (congrArg (Value.int .u64) (bM (x/2^32) 16))<|sT [(0,.int .u64 (((x/2^32)/2^16:Nat):Int))] fun a b=>rP [(2,.int .i64 48)] b fun a b=>tK<|cS<|qP [(14,.bool (decide ((256:Int)≤(((x/2^32)/2^16:Nat):Int))))] b fun a b=> ?_
   refine cJ 14 b (fun m=> ?_) fun m=> ?_
   ·have f:2^8≤((x/2^32)/2^16):=by omega
    refine qS b<|t1 1 (.int .u64 ((((x/2^32)/2^16)/2^8:Nat):Int)) (.int .u64 (Int.fdiv (((x/2^32)/2^16:Nat):Int) (2^8))) (congrArg (Value.int .u64) (bM ((x/2^32)/2^16) 8))<|sT [(0,.int .u64 ((((x/2^32)/2^16)/2^8:Nat):Int))] fun a b=>rP [(2,.int .i64 56)] b fun a b=>tK<|qS b<|t1 2 (bv (UInt8.ofNat (((x/2^32)/2^16)/2^8))) (.int .u8 (IntKind.u8.wrap ((((x/2^32)/2^16)/2^8:Nat):Int))) (bn _) ?_
    refine tC 3 (bv (UInt8.ofNat (aD (((x/2^32)/2^16)/2^8)))) ((Calm.kI (t:=9) (n:=(((x/2^32)/2^16)/2^8)) (s:=len8) (by rw[show((((x/2^32)/2^16)/2^8:Nat):Int)=((UInt8.ofNat (((x/2^32)/2^16)/2^8)).toNat :Int) by rw[gP (by omega)]];kernel_rfl) (by kernel_rfl) (len8_get _ (by omega))) _)<|t1 4 (.int .i64 ((aD (((x/2^32)/2^16)/2^8):Nat):Int)) (.int .i64 (IntKind.i64.wrap ((UInt8.ofNat (aD (((x/2^32)/2^16)/2^8))).toNat :Int))) (gO (y:=((x/2^32)/2^16)/2^8) (by omega)) ?_
    have c:=dq (((x/2^32)/2^16)/2^8) (by omega)
    refine tA 5 56 (aD (((x/2^32)/2^16)/2^8))<|sT [(2,nV (56+(aD (((x/2^32)/2^16)/2^8))))] fun a b=>cR<|rT 2 (nV (56+(aD (((x/2^32)/2^16)/2^8)))) b ?_
    have d:=bH (x:=x) (k:=32) (by omega)
    have e:=bH (x:=x/2^32) (k:=16) (by omega)
    have g:=bH (x:=(x/2^32)/2^16) (k:=8) (by omega)
    exact⟨congrArg (fun z:Nat=>Value.int .i64 (z:Int)) (by omega),rfl⟩
   ·refine cN<|tK<|qS b<|t1 2 (bv (UInt8.ofNat ((x/2^32)/2^16))) (.int .u8 (IntKind.u8.wrap (((x/2^32)/2^16:Nat):Int))) (bn _)<|tC 3 (bv (UInt8.ofNat (aD ((x/2^32)/2^16)))) ((Calm.kI (t:=9) (n:=((x/2^32)/2^16)) (s:=len8) (by rw[show(((x/2^32)/2^16:Nat):Int)=((UInt8.ofNat ((x/2^32)/2^16)).toNat :Int) by rw[gP (by omega)]];kernel_rfl) (by kernel_rfl) (len8_get _ (by omega))) _)<|t1 4 (.int .i64 ((aD ((x/2^32)/2^16):Nat):Int)) (.int .i64 (IntKind.i64.wrap ((UInt8.ofNat (aD ((x/2^32)/2^16))).toNat :Int))) (gO (y:=(x/2^32)/2^16) (by omega)) ?_
    have c:=dq ((x/2^32)/2^16) (by omega)
    refine tA 5 48 (aD ((x/2^32)/2^16))<|sT [(2,nV (48+(aD ((x/2^32)/2^16))))] fun a b=>cR<|rT 2 (nV (48+(aD ((x/2^32)/2^16)))) b ?_
    have d:=bH (x:=x) (k:=32) (by omega)
    have e:=bH (x:=x/2^32) (k:=16) (by omega)
    exact⟨congrArg (fun z:Nat=>Value.int .i64 (z:Int)) (by omega),rfl⟩
  ·refine cN<|tK<|cS<|qP [(14,.bool (decide ((256:Int)≤((x/2^32:Nat):Int))))] b fun a b=>cJ 14 b (fun o=> ?_) fun o=> ?_
   ·have f:2^8≤(x/2^32):=by omega
    refine qS b<|t1 1 (.int .u64 (((x/2^32)/2^8:Nat):Int)) (.int .u64 (Int.fdiv ((x/2^32:Nat):Int) (2^8))) (congrArg (Value.int .u64) (bM (x/2^32) 8))<|sT [(0,.int .u64 (((x/2^32)/2^8:Nat):Int))] fun a b=>rP [(2,.int .i64 40)] b fun a b=>tK<|qS b<|t1 2 (bv (UInt8.ofNat ((x/2^32)/2^8))) (.int .u8 (IntKind.u8.wrap (((x/2^32)/2^8:Nat):Int))) (bn _) ?_
    refine tC 3 (bv (UInt8.ofNat (aD ((x/2^32)/2^8)))) ((Calm.kI (t:=9) (n:=((x/2^32)/2^8)) (s:=len8) (by rw[show(((x/2^32)/2^8:Nat):Int)=((UInt8.ofNat ((x/2^32)/2^8)).toNat :Int) by rw[gP (by omega)]];kernel_rfl) (by kernel_rfl) (len8_get _ (by omega))) _)<|t1 4 (.int .i64 ((aD ((x/2^32)/2^8):Nat):Int)) (.int .i64 (IntKind.i64.wrap ((UInt8.ofNat (aD ((x/2^32)/2^8))).toNat :Int))) (gO (y:=(x/2^32)/2^8) (by omega)) ?_
    have c:=dq ((x/2^32)/2^8) (by omega)
    refine tA 5 40 (aD ((x/2^32)/2^8))<|sT [(2,nV (40+(aD ((x/2^32)/2^8))))] fun a b=>cR<|rT 2 (nV (40+(aD ((x/2^32)/2^8)))) b ?_
    have d:=bH (x:=x) (k:=32) (by omega)
    have g:=bH (x:=x/2^32) (k:=8) (by omega)
    exact⟨congrArg (fun z:Nat=>Value.int .i64 (z:Int)) (by omega),rfl⟩
   ·refine cN<|tK<|qS b<|t1 2 (bv (UInt8.ofNat (x/2^32))) (.int .u8 (IntKind.u8.wrap ((x/2^32:Nat):Int))) (bn _)<|tC 3 (bv (UInt8.ofNat (aD (x/2^32)))) ((Calm.kI (t:=9) (n:=(x/2^32)) (s:=len8) (by rw[show((x/2^32:Nat):Int)=((UInt8.ofNat (x/2^32)).toNat :Int) by rw[gP (by omega)]];kernel_rfl) (by kernel_rfl) (len8_get _ (by omega))) _)<|t1 4 (.int .i64 ((aD (x/2^32):Nat):Int)) (.int .i64 (IntKind.i64.wrap ((UInt8.ofNat (aD (x/2^32))).toNat :Int))) (gO (y:=x/2^32) (by omega)) ?_
    have c:=dq (x/2^32) (by omega)
    refine tA 5 32 (aD (x/2^32))<|sT [(2,nV (32+(aD (x/2^32))))] fun a b=>cR<|rT 2 (nV (32+(aD (x/2^32)))) b ?_
    have d:=bH (x:=x) (k:=32) (by omega)
    exact⟨congrArg (fun z:Nat=>Value.int .i64 (z:Int)) (by omega),rfl⟩
 ·refine cN<|tK<|cS<|qP [(8,.bool (decide ((65536:Int)≤((x:Nat):Int))))] b fun a b=>cJ 8 b (fun p=> ?_) fun p=> ?_
  ·have i:2^16≤(x):=by omega
   refine qS b<|t1 1 (.int .u64 ((x/2^16:Nat):Int)) (.int .u64 (Int.fdiv ((x:Nat):Int) (2^16))) (congrArg (Value.int .u64) (bM (x) 16))<|sT [(0,.int .u64 ((x/2^16:Nat):Int))] fun a b=>rP [(2,.int .i64 16)] b fun a b=>tK<|cS<|qP [(14,.bool (decide ((256:Int)≤((x/2^16:Nat):Int))))] b fun a b=> ?_
   refine cJ 14 b (fun q=> ?_) fun q=> ?_
   ·have f:2^8≤(x/2^16):=by omega
    refine qS b<|t1 1 (.int .u64 (((x/2^16)/2^8:Nat):Int)) (.int .u64 (Int.fdiv ((x/2^16:Nat):Int) (2^8))) (congrArg (Value.int .u64) (bM (x/2^16) 8))<|sT [(0,.int .u64 (((x/2^16)/2^8:Nat):Int))] fun a b=>rP [(2,.int .i64 24)] b fun a b=>tK<|qS b<|t1 2 (bv (UInt8.ofNat ((x/2^16)/2^8))) (.int .u8 (IntKind.u8.wrap (((x/2^16)/2^8:Nat):Int))) (bn _) ?_
    refine tC 3 (bv (UInt8.ofNat (aD ((x/2^16)/2^8)))) ((Calm.kI (t:=9) (n:=((x/2^16)/2^8)) (s:=len8) (by rw[show(((x/2^16)/2^8:Nat):Int)=((UInt8.ofNat ((x/2^16)/2^8)).toNat :Int) by rw[gP (by omega)]];kernel_rfl) (by kernel_rfl) (len8_get _ (by omega))) _)<|t1 4 (.int .i64 ((aD ((x/2^16)/2^8):Nat):Int)) (.int .i64 (IntKind.i64.wrap ((UInt8.ofNat (aD ((x/2^16)/2^8))).toNat :Int))) (gO (y:=(x/2^16)/2^8) (by omega)) ?_
    have c:=dq ((x/2^16)/2^8) (by omega)
    refine tA 5 24 (aD ((x/2^16)/2^8))<|sT [(2,nV (24+(aD ((x/2^16)/2^8))))] fun a b=>cR<|rT 2 (nV (24+(aD ((x/2^16)/2^8)))) b ?_
    have e:=bH (x:=x) (k:=16) (by omega)
    have g:=bH (x:=x/2^16) (k:=8) (by omega)
    exact⟨congrArg (fun z:Nat=>Value.int .i64 (z:Int)) (by omega),rfl⟩
   ·refine cN<|tK<|qS b<|t1 2 (bv (UInt8.ofNat (x/2^16))) (.int .u8 (IntKind.u8.wrap ((x/2^16:Nat):Int))) (bn _)<|tC 3 (bv (UInt8.ofNat (aD (x/2^16)))) ((Calm.kI (t:=9) (n:=(x/2^16)) (s:=len8) (by rw[show((x/2^16:Nat):Int)=((UInt8.ofNat (x/2^16)).toNat :Int) by rw[gP (by omega)]];kernel_rfl) (by kernel_rfl) (len8_get _ (by omega))) _)<|t1 4 (.int .i64 ((aD (x/2^16):Nat):Int)) (.int .i64 (IntKind.i64.wrap ((UInt8.ofNat (aD (x/2^16))).toNat :Int))) (gO (y:=x/2^16) (by omega)) ?_
    have c:=dq (x/2^16) (by omega)
    refine tA 5 16 (aD (x/2^16))<|sT [(2,nV (16+(aD (x/2^16))))] fun a b=>cR<|rT 2 (nV (16+(aD (x/2^16)))) b ?_
    have e:=bH (x:=x) (k:=16) (by omega)
    exact⟨congrArg (fun z:Nat=>Value.int .i64 (z:Int)) (by omega),rfl⟩
  ·refine cN<|tK<|cS<|qP [(14,.bool (decide ((256:Int)≤((x:Nat):Int))))] b fun a b=>cJ 14 b (fun r=> ?_) fun r=> ?_
   ·have f:2^8≤(x):=by omega
    refine qS b<|t1 1 (.int .u64 ((x/2^8:Nat):Int)) (.int .u64 (Int.fdiv ((x:Nat):Int) (2^8))) (congrArg (Value.int .u64) (bM (x) 8))<|sT [(0,.int .u64 ((x/2^8:Nat):Int))] fun a b=>rP [(2,.int .i64 8)] b fun a b=>tK<|qS b<|t1 2 (bv (UInt8.ofNat (x/2^8))) (.int .u8 (IntKind.u8.wrap ((x/2^8:Nat):Int))) (bn _) ?_
    refine tC 3 (bv (UInt8.ofNat (aD (x/2^8)))) ((Calm.kI (t:=9) (n:=(x/2^8)) (s:=len8) (by rw[show((x/2^8:Nat):Int)=((UInt8.ofNat (x/2^8)).toNat :Int) by rw[gP (by omega)]];kernel_rfl) (by kernel_rfl) (len8_get _ (by omega))) _)<|t1 4 (.int .i64 ((aD (x/2^8):Nat):Int)) (.int .i64 (IntKind.i64.wrap ((UInt8.ofNat (aD (x/2^8))).toNat :Int))) (gO (y:=x/2^8) (by omega)) ?_
    have c:=dq (x/2^8) (by omega)
    refine tA 5 8 (aD (x/2^8))<|sT [(2,nV (8+(aD (x/2^8))))] fun a b=>cR<|rT 2 (nV (8+(aD (x/2^8)))) b ?_
    have g:=bH (x:=x) (k:=8) (by omega)
    exact⟨congrArg (fun z:Nat=>Value.int .i64 (z:Int)) (by omega),rfl⟩
   ·refine cN<|tK<|qS b<|t1 2 (bv (UInt8.ofNat x)) (.int .u8 (IntKind.u8.wrap ((x:Nat):Int))) (bn _)<|tC 3 (bv (UInt8.ofNat (aD x))) ((Calm.kI (t:=9) (n:=x) (s:=len8) (by rw[show((x:Nat):Int)=((UInt8.ofNat x).toNat :Int) by rw[gP (by omega)]];kernel_rfl) (by kernel_rfl) (len8_get _ (by omega))) _)<|t1 4 (.int .i64 ((aD x:Nat):Int)) (.int .i64 (IntKind.i64.wrap ((UInt8.ofNat (aD x)).toNat :Int))) (gO (y:=x) (by omega)) ?_
    have c:=dq (x) (by omega)
    exact t1 5 (.int .i64 ((aD x:Nat):Int)) (.int .i64 (IntKind.i64.wrap (0+((aD x:Nat):Int)))) (congrArg (Value.int .i64) (gJ (by omega) (by omega) (by omega)))<|sT [(2,nV (aD x))] fun a b=>cR<|rT 2 (nV (aD x)) b<|⟨congrArg (fun z:Nat=>Value.int .i64 (z:Int)) (by omega),rfl⟩
noncomputable def b90:Code:=Tryz.f90.body.getD .skip
theorem zL(h:Heap)(x:Nat)(hx:x<18446744073709551616):Sat Tryz.prog 90 #[.int .u64 ((x:Nat):Int)] h fun v h'=>v= .int .i64 ((aD x:Nat):Int)∧h'=h:=by
 refine ag Tryz.func90 8 fun a b=>qP [] b fun a b=>cS<|C.Bt [1,0,0] [1,0,1] (by kernel_rfl)<|cN<|tK<|qS b ?_
 exact tC 1 (nV (aD x)) (Does.call (f:=118) (args:= #[.int .u64 ((x:Nat):Int)]) (by kernel_rfl) (vf _ x hx))<|sT [(2,nV (aD x))] fun a b=>cR<|rT 2 (nV (aD x)) b<|⟨rfl,rfl⟩
noncomputable def Fs:Code:=Tryz.f104.body.getD .skip
theorem vg(h:Heap)(n:Nat)(hn:2≤n)(hn2:n≤9223372036854775807):Sat Tryz.prog 104 #[.int .i64 ((n:Nat):Int)] h fun v h'=>v= .int .i64 ((half n:Nat):Int)∧h'=h:=by
 have d:=uW (x:=n - 1) (k:=63) (by omega)
 have c:1≤aD (n - 1):=by unfold aD;rw[if_neg (by omega)];omega
 refine ag Tryz.func104 9 fun a b=>qP [] b fun a b=>qS b<|tU 1 n 1<|t1 2 (.int .u64 ((n - 1:Nat):Int)) (.int .u64 (IntKind.u64.wrap ((n - 1:Nat):Int))) (congrArg (Value.int .u64) (mW (by omega)))<|tC 3 (nV (aD (n - 1))) (Does.call (f:=90) (args:= #[.int .u64 ((n - 1:Nat):Int)]) (by kernel_rfl) (zL _ (n - 1) (by omega)))<|tU 4 (aD (n - 1)) 1 ?_
 exact tC 5 (nV (2^((aD (n - 1)) - 1))) ((Calm.DS ((aD (n - 1)) - 1) (by kernel_rfl) (by omega)) _)<|sT [(2,nV (2^((aD (n - 1)) - 1)))] fun a b=>cR<|rT 2 (nV (2^((aD (n - 1)) - 1))) b<|⟨congrArg (fun z:Nat=>Value.int .i64 (z:Int)) (rz hn),rfl⟩
noncomputable def b87:Code:=Tryz.f87.body.getD .skip
theorem nN(h:Heap)(n:Nat)(hn:2≤n)(hn2:n≤1099511627776):Sat Tryz.prog 87 #[.int .i64 ((n:Nat):Int)] h fun v h'=>v= .int .i64 ((half n:Nat):Int)∧h'=h:=by
 refine ag Tryz.func87 11 fun a b=>qP [] b fun a b=>qP [(3,.int .i64 1)] b fun a b=>cS<|cB 0<|cL (fun m a h'=>∃j:Nat,m=n - 2^j∧(2^j<n)∧(h=h')∧(Fr a 11 [(0,.int .i64 ((n:Nat):Int)),(3,.int .i64 ((2^j:Nat):Int))])) (n - 1) ⟨0,rfl,(by omega),rfl,b.to⟩ ?_
 clear b a
 rintro m a g ⟨j,rfl,f,e,b⟩
 have i:=Nat.two_pow_pos j
 refine cS<|qS b<|t1 1 (.int .i64 ((2*(2^j):Nat):Int)) (.int .i64 (IntKind.i64.wrap (2*((2^j:Nat):Int)))) (congrArg (Value.int .i64) (gJ (by omega) (by omega) (by omega)))<|sT [(7,.bool (decide (((2*(2^j):Nat):Int)<((n:Nat):Int))))] fun a b=>cJ 7 b (fun c=> ?_) fun c=> ?_
 ·refine cN<|tK<|cB 1<|rS b<|t1 1 (.int .i64 ((2*(2^j):Nat):Int)) (.int .i64 (IntKind.i64.wrap (2*((2^j:Nat):Int)))) (congrArg (Value.int .i64) (gJ (by omega) (by omega) (by omega)))<|sE [(3,nV (2*(2^j)))] fun a b=>bK ?_
  have d:2*2^j=2^(j+1):=by rw[Nat.pow_succ,Nat.mul_comm]
  rw[d] at b
  show ∃m',m'<_∧_
  refine⟨_,?_,(j+1),rfl,(by rw[Nat.pow_succ];omega),e,b.to⟩
  omega
 ·refine cX 0 (xT (xT (xB ?_)))
  exact tK<|qP [(2,nV (2^j))] b fun a b=>cR<|rT 2 (nV (2^j)) b<|⟨congrArg (fun z:Nat=>Value.int .i64 (z:Int)) (tu f (by omega)).symm,e.symm⟩
noncomputable def Ft:Code:=Tryz.f105.body.getD .skip
theorem pU(h:Heap)(ad:Option Addr)(cap n:Nat)(L:List Hs)(bT:Own h (.slice ad n cap) 39 n 32 (hcs L))(h32:aq L)(hLn:L.length =n)(hn:n≤1099511627776):Sat Tryz.prog 105 #[.slice ad n cap] h fun _ h'=>Own h' (.slice ad n cap) 39 n 32 (hcs L.reverse)∧Grew (ad.map (·.block)) h h':=by
 have i:Grew (ad.map (·.block)) h h:=Grew.refl _ _
 refine ag Tryz.func105 28 fun a f=>qS f<|t1 2 (.int .i64 (((n:Nat):Int) - 1)) (.int .i64 (IntKind.i64.wrap (((n:Nat):Int) - 1))) (congrArg (Value.int .i64) (kg (by omega) (by omega)))<|sT [(2,.int .i64 0),(3,.int .i64 (((n:Nat):Int) - 1))] fun a f=>cB 0 ?_
 have p:(((n:Nat):Int) - 1)=((n:Nat):Int) - 1 - ((0:Nat):Int):=by omega
 rw[p] at f
 refine cL (fun m a h'=>∃t:Nat,∃d:List Hs,m=n - t∧(Grew (ad.map (·.block)) h h')∧(m_ L d t)∧(aq d)∧(Own h' (.slice ad n cap) 39 n 32 (hcs d))∧(Fr a 28 [(0,.slice ad n cap),(2,.int .i64 ((t:Nat):Int)),(3,.int .i64 (((n:Nat):Int) - 1 - ((t:Nat):Int)))])) (n - 0) ⟨0,L,rfl,i,(m_.start L),h32,bT,f.to⟩ ?_
 clear f a
 clear i
 clear h32
 clear bT
 rintro m a A ⟨t,d,rfl,i,j,b,bT,f⟩
 refine cS<|qP [(9,.bool (decide (((t:Nat):Int)<(((n:Nat):Int) - 1 - ((t:Nat):Int)))))] f fun a f=>cJ 9 f (fun r=> ?_) fun r=> ?_
 ·have ER:d.length =n:=j.1.trans hLn
  have w:(((n:Nat):Int) - 1 - ((t:Nat):Int))=((n - 1 - t:Nat):Int):=by omega
  rw[w] at f
  have hlt:t<n - 1 - t:=by omega
  obtain⟨g,rfl,v⟩:=bT.bf (by omega)
  have c:=HR.of bT b
  have l:(d.getD (n - 1 - t) []).length =32:=b.get (by omega)
  have s:(d.getD t []).length =32:=b.get (by omega)
  have o:m_ L ((d.set t (d.getD (n - 1 - t) [])).set (n - 1 - t) (d.getD t [])) (t+1):=by have:=j.step (by rw[hLn];exact hlt);rw[hLn] at this;exact this
  have x:(d.set t (d.getD (n - 1 - t) [])).length =n:=by rw[List.length_set];exact ER
  refine cN<|tK<|cS<|cB 1<|cD [0,0,0,0,0,0,48,112,0,0,768,1792,4083,8179,16383,32767] 3 mixed f<|mP 63 [0,1,2,3,4,5] [.slice (some g) n cap,nV t,.slice (some g) n cap,nV (n - 1 - t),.slice (some g) n cap,nV (n - 1 - t)]<|mI 127 6 g n 32 (n - 1 - t) ((n - 1 - t)*32) ?_
  refine mH 255 128 7 (n - 1 - t) (HR.of bT b)<|mP 1023 [8,9] [.slice (some g) n cap,nV t]<|mI 2047 10 g n 32 t (t*32)<|mH 4095 2176 11 t (HR.of bT b)<|mI 8191 12 g n 32 t (t*32)<|i' 16383 16371 13 (Does.cH (a:=g) (q:=t*32) (vs:=(d.getD (n - 1 - t) []).map bv) (bw (by kernel_rfl) (hlm (c.2.1.get (k:=(n - 1 - t)) (by rw[c.2.2];omega)))) bT (by rw[hlm (c.2.1.get (k:=(n - 1 - t)) (by rw[c.2.2];omega))];omega) (aB _)) ?_
  rintro _ B ⟨rfl,bT,y⟩
  replace i:=i.trans y
  rw[tw b (k:=t) (by omega) (c.2.1.get (k:=(n - 1 - t)) (by rw[c.2.2];omega))] at bT
  refine mI 32767 14 g n 32 (n - 1 - t) ((n - 1 - t)*32)<|i' 65535 65535 15 (Does.cH (a:=g) (q:=(n - 1 - t)*32) (vs:=(d.getD t []).map bv) (bw (by kernel_rfl) (hlm (c.2.1.get (k:=t) (by rw[c.2.2];omega)))) bT (by rw[hlm (c.2.1.get (k:=t) (by rw[c.2.2];omega))];omega) (aB _)) ?_
  rintro _ C ⟨rfl,bT,z⟩
  replace i:=i.trans z
  rw[tw (b.set l) (k:=n - 1 - t) (by omega) (c.2.1.get (k:=t) (by rw[c.2.2];omega))] at bT
  refine mE [] fun a f=>bK<|tK<|rS f<|tA 1 t 1<|tU 3 (n - 1 - t) 1<|sE [(2,nV (t+1)),(3,nV ((n - 1 - t) - 1))] fun a f=> ?_
  have u:((n - 1 - t - 1:Nat):Int)=((n:Nat):Int) - 1 - ((t+1:Nat):Int):=by omega
  simp only[nV,u] at f
  show ∃m',m'<_∧_
  refine⟨_,?_,(t+1),((d.set t (d.getD (n - 1 - t) [])).set (n - 1 - t) (d.getD t [])),rfl,i,o,((b.set l).set s),bT,f.to⟩
  omega
 ·refine cX 0 (xT (xT (xB ?_)))
  refine n0 f ?_
  have ER:d.length =n:=j.1.trans hLn
  have e:=j.done (by omega)
  exact⟨e▸bT,i⟩
noncomputable def b71:Code:=Tryz.f71.body.getD .skip
set_option maxHeartbeats 1000000 in
theorem vh(h:Heap)(L:List Hs)(va:Option Addr)(vc n:Nat)(hL:HR h va vc n L)(hn:n≤1099511627000)(m:Int)(kt:bq h):Sat Tryz.prog 71 #[.slice va n vc,.int .i64 m] h fun v h'=>∃s,v= .tuple #[s,.int .i64 (cO L m).2]∧bU h h' 39 s (cO L m).1 :=by
 have a8:=hL.2.2
 have i:=Ext.refl h
 have Y:=kt.lt
 have c:Sep h.size h.size []:=Sep.nil _ _
 refine ag Tryz.func71 51 fun a d=>qP [] d fun a d=>cS<|cS ?_
 have a3:m<0∨(n:Int)≤m∨∃k:Nat,m=(k:Int)∧k<n:=by
  rcases Int.lt_or_le m 0 with h0|h0
  ·exact .inl h0
  ·rcases Int.lt_or_le m n with h1|h1
   ·exact .inr (.inr ⟨m.toNat,by omega,by omega⟩)
   ·exact .inr (.inl h1)
 rcases a3 with a4|a4|⟨k,rfl,hk⟩
 ·refine rS d<|tT 1 (m<(0:Int))<|sE [(15,.bool true)] fun a d=>tK<|cT 15 d<|qP [(4,.slice none 0 0),(5,.int .i64 50)] d fun a d=>cR (yT ?_)
  refine aA [.tmp 4,.tmp 5] [.slice none 0 0,.int .i64 50] (.tuple #[.slice none 0 0,.int .i64 50]) rfl d ⟨rfl,rfl,trivial⟩ rfl ?_
  rw[js (by omega)];exact⟨_,rfl,bU.none i⟩
 ·refine rS d<|tX 1 (m<(0:Int))<|tT 6 (((n:Nat):Int)≤m)<|sE [(15,.bool true)] fun a d=>tK<|cT 15 d<|qP [(4,.slice none 0 0),(5,.int .i64 50)] d fun a d=> ?_
  refine cR (yT ?_)
  refine aA [.tmp 4,.tmp 5] [.slice none 0 0,.int .i64 50] (.tuple #[.slice none 0 0,.int .i64 50]) rfl d ⟨rfl,rfl,trivial⟩ rfl ?_
  rw[js (by omega)];exact⟨_,rfl,bU.none i⟩
 ·refine rS d<|tX 1 (((k:Nat):Int)<(0:Int))<|tX 6 (((n:Nat):Int)≤((k:Nat):Int))<|sE [(15,.bool false)] fun a d=>tK<|cF 15 d<|cN ?_
  refine tK<|qP [(6,.slice none 0 0)] d fun a d=>cS<|cB 0 ?_
  have bT:Own h (.slice none 0 0) 39 0 32 (hcs []):=Own.nil _ _ _
  have r:=i.size
  replace c:=c.none r;clear r
  have q:incl L k=incl L k++([]:List Hs).reverse :=by simp
  refine cL (fun m a h'=>∃j:List Hs,∃P:Option Addr,∃e:Nat,∃b:Nat,∃w:Nat,∃p:List Hs,∃J:Option Addr,∃cap:Nat,m=b+1∧(Ext h h')∧(bq h')∧(HR h P e b j)∧(w<b∧b+p.length ≤n)∧(incl L k=incl j w++p.reverse)∧(aq p)∧(Own h' (.slice J p.length cap) 39 p.length 32 (hcs p))∧(Sep h.size h'.size [J.map (·.block)])∧(Fr a 51 [(0,.slice P b e),(1,.int .i64 ((w:Nat):Int)),(6,.slice J p.length cap)])) (n+1) ⟨L,va,vc,n,k,[],none,0,rfl,i,kt,hL,(by simp;omega),q,aq.nil,bT,c,d.to⟩ ?_
  clear d a
  clear i
  clear kt
  clear hL
  clear q
  clear bT
  clear c
  rintro m a h1 ⟨j,P,e,b,w,p,J,cap,rfl,i,kt,o,a9,q,C,bT,c,d⟩
  have A:=o.2.2
  refine cS<|qP [(18,.bool (decide ((1:Int)<((b:Nat):Int))))] d fun a d=>cJ 18 d (fun a5=> ?_) fun a5=> ?_
  ·obtain⟨D,rfl,a7⟩:=o.bf (by omega)
   have b0:=eA (n:=b) (by omega)
   have b1:=dT b
   obtain⟨F,B⟩:∃x,x=if e=half b then (some D:Option Addr) else (some D:Option Addr).map (·.add (half b*32)):=⟨_,rfl⟩
   refine cN<|tK<|cB 1<|qS d<|tC 2 (nV (half b)) (Does.call (f:=104) (args:= #[nV (b)]) (by kernel_rfl) (vg _ b (by omega) (by omega)))<|sT [(7,nV (half b))] fun a d=>qP [(24,.bool (decide (((w:Nat):Int)<((half b:Nat):Int))))] d fun a d=> ?_
   refine cJ 24 d (fun a6=> ?_) fun a6=> ?_
   ·refine qS d<|tC 3 (.slice F (b - half b) (e - half b)) ((fun h=>Calm.cn (a:=(some D)) (len:=b) (cap:=e) (sz:=32) (x:=F) (half b) b e (b - half b) (e - half b) (by kernel_rfl) (.inl ⟨rfl,rfl⟩) (.inl ⟨rfl,rfl⟩) (.inr rfl) (by omega) (by omega) B (by first|rfl|omega) (by first|rfl|omega) h) _)<|tG 4 (iA _ (j.drop (half b)) _ _ (b - half b) ((o.ext i).drop (by omega) B) kt (by omega)) ?_
    rintro _ h5 ⟨rfl,g4⟩
    refine tF 5 (Does.newHs (L:=[root (j.drop (half b))]) (t:=45) (E:=39) (db:=32) (n:=1) (by kernel_rfl) (by kernel_rfl) (aq.cons (bg (o.2.1.drop _)) aq.nil) rfl (by decide) (by decide)) ?_
    rintro _ h6 ⟨rfl,Q⟩
    have g7:Ext h5 h6:=aT Q
    have m8:h6[h5.size]? =some (.cells (hcs [root (j.drop (half b))]).toArray 39):=bj Q
    clear Q
    replace i:=i.ext g4
    have r:=i.size
    replace c:=c.up g4.size
    have u:=c
    replace c:=u.new r (aj m8)
    clear u r
    replace bT:=(bT.ext g4).ext g7
    refine tP 6 ((p++[root (j.drop (half b))]).length) 32 (hcs (p++[root (j.drop (half b))])) bT (hrow1 (bg (o.2.1.drop _)) m8) (di _) (fun R G b2 bT S M=> ?_) (ys:=(hcs ([root (j.drop (half b))]))) (hZ:=by first|rfl|exact(aX _ _).symm |simp[aX])
    replace i:=i.ext g7
    have Z:=c
    replace c:=c.sa S 1 M bT i.size;clear M
    clear m8
    replace kt:=((kt.ext g4).ext g7).grew S (Z.zero 1 rfl Y)
    replace i:=i.grew S (Z.l 1)
    replace c:=c.sub (l':=[R.map (·.block)]) (.cons _ (.cons_cons _ (.slnil)))
    refine sT [(6,.slice R ((p++[root (j.drop (half b))]).length) G)] fun a d=>rS d<|tC 2 (.slice (some D) (half b) e) ((fun h=>Calm.cn (a:=(some D)) (len:=b) (cap:=e) (sz:=32) (x:=(some D)) 0 (half b) e (half b) e (by kernel_rfl) (.inl ⟨rfl,rfl⟩) (.inr rfl) (.inl ⟨rfl,rfl⟩) (by omega) (by omega) (fl _ 32) (by first|rfl|omega) (by first|rfl|omega) h) _)<|sE [(0,.slice (some D) (half b) e)] fun a d=> ?_
    have T:=o.take (k:=half b) (by omega)
    have y:incl L k=incl (j.take (half b)) w++(p++[root (j.drop (half b))]).reverse :=by rw[q,kZ (l:=j) (by omega) (by rw[A];omega),A];simp
    have U:w<half b∧half b+(p++[root (j.drop (half b))]).length ≤n:=by rw[List.length_append,List.length_singleton];omega
    have z:aq (p++[root (j.drop (half b))]):=C.append (aq.one (bg (o.2.1.drop _)))
    refine bK ?_
    show ∃w,w<_∧_
    refine⟨_,?_,_,_,_,(half b),_,_,R,G,rfl,i,kt,T,U,y,z,bT,c,d.to⟩
    omega
   ·refine qS d<|tC 3 (.slice (some D) (half b) e) ((fun h=>Calm.cn (a:=(some D)) (len:=b) (cap:=e) (sz:=32) (x:=(some D)) 0 (half b) e (half b) e (by kernel_rfl) (.inl ⟨rfl,rfl⟩) (.inr rfl) (.inl ⟨rfl,rfl⟩) (by omega) (by omega) (fl _ 32) (by first|rfl|omega) (by first|rfl|omega) h) _)<|tG 4 (iA _ (j.take (half b)) _ _ (half b) ((o.ext i).take (k:=half b) (by omega)) kt (by omega)) ?_
    rintro _ a0 ⟨rfl,K⟩
    refine tF 5 (Does.newHs (L:=[root (j.take (half b))]) (t:=45) (E:=39) (db:=32) (n:=1) (by kernel_rfl) (by kernel_rfl) (aq.cons (bg (o.2.1.take _)) aq.nil) rfl (by decide) (by decide)) ?_
    rintro _ a1 ⟨rfl,Q⟩
    have V:Ext a0 a1:=aT Q
    have W:a1[a0.size]? =some (.cells (hcs [root (j.take (half b))]).toArray 39):=bj Q
    clear Q
    replace i:=i.ext K
    have r:=i.size
    replace c:=c.up K.size
    have u:=c
    replace c:=u.new r (aj W)
    clear u r
    replace bT:=(bT.ext K).ext V
    refine tP 6 ((p++[root (j.take (half b))]).length) 32 (hcs (p++[root (j.take (half b))])) bT (hrow1 (bg (o.2.1.take _)) W) (di _) (fun H I b3 bT X N=> ?_) (ys:=(hcs ([root (j.take (half b))]))) (hZ:=by first|rfl|exact(aX _ _).symm |simp[aX])
    replace i:=i.ext V
    have a2:=c
    replace c:=c.sa X 1 N bT i.size;clear N
    clear W
    replace kt:=((kt.ext K).ext V).grew X (a2.zero 1 rfl Y)
    replace i:=i.grew X (a2.l 1)
    replace c:=c.sub (l':=[H.map (·.block)]) (.cons _ (.cons_cons _ (.slnil)))
    refine sT [(6,.slice H ((p++[root (j.take (half b))]).length) I)] fun a d=>rS d<|tC 2 (.slice F (b - half b) (e - half b)) ((fun h=>Calm.cn (a:=(some D)) (len:=b) (cap:=e) (sz:=32) (x:=F) (half b) b e (b - half b) (e - half b) (by kernel_rfl) (.inl ⟨rfl,rfl⟩) (.inl ⟨rfl,rfl⟩) (.inr rfl) (by omega) (by omega) B (by first|rfl|omega) (by first|rfl|omega) h) _)<|tU 5 w (half b)<|sE [(0,.slice F (b - half b) (e - half b)),(1,nV (w - (half b)))] fun a d=> ?_
    have T:=o.drop (k:=half b) (by omega) B
    have y:incl L k=incl (j.drop (half b)) (w - half b)++(p++[root (j.take (half b))]).reverse :=by rw[q,k_ (l:=j) (by omega) (by rw[A];omega),A];simp
    have U:w - half b<b - half b∧b - half b+(p++[root (j.take (half b))]).length ≤n:=by rw[List.length_append,List.length_singleton];omega
    have z:aq (p++[root (j.take (half b))]):=C.append (aq.one (bg (o.2.1.take _)))
    refine bK ?_
    show ∃w,w<_∧_
    refine⟨_,?_,_,_,_,(b - half b),_,_,H,I,rfl,i,kt,T,U,y,z,bT,c,d.to⟩
    omega
  ·refine cX 0 (xT (xT (xB ?_)))
   refine tK<|qS d<|tG 1 (pU _ J cap p.length p bT C rfl (by omega)) ?_
   rintro _ b5 ⟨O,g⟩
   replace i:=i.grew g (c.l 0)
   replace c:=c.up g.size
   clear bT;have bT:=O;clear O g
   refine sT [] fun a d=>qP [(4,.slice J p.length cap),(5,.int .i64 0)] d fun a d=>cR<|aA [.tmp 4,.tmp 5] [.slice J p.length cap,.int .i64 0] (.tuple #[.slice J p.length cap,.int .i64 0]) rfl d ⟨rfl,rfl,trivial⟩ rfl ?_
   rw[nE (by omega)]
   exact⟨_,rfl,bU.cast (p:=p.reverse) (by rw[q,fO (by omega)];rfl) ⟨J,cap,by rw[List.length_reverse],by rw[List.length_reverse];exact bT,c.low 0 rfl,i⟩⟩
noncomputable def Fu:Code:=Tryz.f121.body.getD .skip
set_option maxHeartbeats 1000000 in
theorem rW(h:Heap)(b:List UInt8)(va:Option Addr)(vc:Nat)(hr:Row h (.slice va b.length vc) b.length 1 (b.map bv))(hbl:b.length ≤1099511627000):Sat Tryz.prog 121 #[.slice va b.length vc] h fun v h'=>Bw h h' 32 5 v b:=by
 have i:=Ext.refl h
 have e:Sep h.size h.size []:=Sep.nil _ _
 refine ag Tryz.func121 30 fun a g=>qP [] g fun a g=>qS g<|tN 0 (.slice (some ⟨h.size,0,none⟩) 0 0) #[] 5 fun D G B=> ?_
 replace e:=e.nw i.size B
 have d:Own D (.slice (some ⟨h.size,0,none⟩) 0 0) 5 ([]:List UInt8).length 1 (([]:List UInt8).map bv):=Own.empty 1 B
 replace e:Sep h.size D.size [(some ⟨h.size,0,none⟩:Option Addr).map (·.block)]:=e
 replace i:=i.ext G
 clear B
 refine tP 2 b.length 1 (b.map bv) d (hr.ext i) (aB _) (fun f j E d F w=> ?_) (hl:=(by unfold maxLen;simp;omega)) (hb:=(by simp;omega))
 have H:=e
 replace e:=e.sa F 0 w d i.size;clear w
 refine sT [(3,.slice f b.length j)] fun a g=>qP [(4,.slice none 0 0)] g fun a g=>cS<|qP [(5,.int .i64 0)] g fun a g=>cB 0 ?_
 have c:Own E (.slice none 0 0) 32 0 1 ((tL none b 0)):=Own.nil _ _ _
 replace c:Own E (.slice none 0 0) 32 0 1 (tL f b 0):=c
 replace i:=i.grew F (H.l 0)
 have y:=i.size
 replace e:=e.none y;clear y
 refine cL (fun m a h'=>∃k:Nat,∃u:Option Addr,∃cap:Nat,m=fv b.length - k∧(Ext h h')∧(k≤fv b.length)∧(Own h' (.slice f b.length j) 5 b.length 1 (b.map bv))∧(Own h' (.slice u k cap) 32 k 1 (tL f b k))∧(Sep h.size h'.size [u.map (·.block),f.map (·.block)])∧(Fr a 30 [(3,.slice f b.length j),(4,.slice u k cap),(5,.int .i64 ((k*64:Nat):Int))])) (fv b.length - 0) ⟨0,none,0,rfl,i,(by omega),d,c,e,g.to⟩ ?_
 clear g a
 clear i
 clear d
 clear c
 clear e
 rintro m a C ⟨k,u,cap,rfl,i,I,d,c,e,g⟩
 refine cS<|qP [(13,.bool (decide (((k*64:Nat):Int)<((b.length :Nat):Int))))] g fun a g=>cJ 13 g (fun z=> ?_) fun z=> ?_
 ·have J:k<fv b.length :=by unfold fv;omega
  have hdc:=d.w4
  refine cN<|tK<|cS<|cB 1<|qS g<|tA 3 (k*64) 64<|t1 4 (.int .i64 ((min b.length ((k*64)+64):Nat):Int)) (.int .i64 (if (((k*64)+64:Nat):Int)<((b.length :Nat):Int) then (((k*64)+64:Nat):Int) else ((b.length :Nat):Int))) (congrArg (Value.int .i64) (by rw[Nat.min_def];split<;>split<;>omega)) ?_
  refine sT [(6,nV (min b.length ((k*64)+64)))] fun a g=>rS g<|tC 5 (.slice (tE f k) ((ck b k).length) ((ck b k).length)) ((fun h=>Calm.cn (a:=f) (len:=b.length) (cap:=j) (sz:=1) (x:=(tE f k)) (k*64) (min b.length (k*64+64)) (min b.length (k*64+64)) (ck b k).length (ck b k).length (by kernel_rfl) (.inr ⟨rfl,by omega,rfl⟩) (.inr rfl) (.inr rfl) (by omega) (by omega) (by unfold tE;rw[if_neg (by omega),Nat.mul_one]) (by rw[iU];omega) (by rw[iU];omega) h) _)<|tN 6 (.slice (some ⟨C.size,0,none⟩) 1 1) #[.slice (tE f k) ((ck b k).length) ((ck b k).length)] 32 fun K r s=> ?_
  replace e:=e.nw i.size s
  replace c:=c.ext r
  refine tP 7 (k+1) 24 (tL f b k++[wX f b k]) c (Row.blk (n:=1) (sz:=1) (l:=[wX f b k]) s rfl) (List.all_eq_true.1 (by rfl)) (fun o p L c t q=> ?_)
  replace i:=i.ext r
  have A:=e
  replace e:=e.sa t 1 q c i.size;clear q
  refine sE [(4,.slice o (k+1) p)] fun a g=>bK<|tK<|rS g<|tA 1 (k*64) 64<|sE [(5,nV ((k*64)+64))] fun a g=> ?_
  rw[wY] at c
  clear s
  replace d:=(d.ext r).k t (A.ap 2 1)
  replace i:=i.grew t (A.l 1)
  replace e:=e.sub (l':=[o.map (·.block),f.map (·.block)]) (.cons _ (.cons_cons _ (.cons_cons _ (.slnil))))
  rw[show k*64+64=(k+1)*64 by omega] at g
  show ∃m',m'<_∧_
  refine⟨_,?_,(k+1),o,p,rfl,i,(by omega),d,c,e,g.to⟩
  omega
 ·refine cX 0 (xT (xT (xB ?_)))
  refine tK<|qP [(2,.slice u k cap)] g fun a g=>cR<|rT 2 (.slice u k cap) g ?_
  obtain rfl:k=fv b.length :=by unfold fv at I⊢;omega
  exact⟨_,_,_,_,rfl,c,d,e,i⟩
noncomputable def b97:Code:=Tryz.f97.body.getD .skip
theorem pW(h:Heap)(b:List UInt8)(va:Option Addr)(vc:Nat)(hr:Row h (.slice va b.length vc) b.length 1 (b.map bv))(hbl:b.length ≤1099511627000)(kt:bq h):Sat Tryz.prog 97 #[.slice va b.length vc] h fun v h'=>bU h h' 39 v (mM b (fv b.length)):=by
 have W:=lZ b.length
 have q:=Ext.refl h
 have O:=kt.lt
 have d:Sep h.size h.size []:=Sep.nil _ _
 refine ag Tryz.func97 20 fun a o=>qP [] o fun a o=>qP [(3,.slice none 0 0)] o fun a o=>cS<|qS o<|tG 1 (rW _ b _ _ (hr.ext q) hbl) ?_
 rintro _ P ⟨w,B,j,M,rfl,D,F,G,g⟩
 have r:=q.size
 have s:=d
 replace q:=q.ext g
 replace kt:=kt.ext g
 replace d:=s.app G g.size r
 have f:Own P (.slice w (fv b.length) B) 32 (fv b.length) 1 (tL j b (fv b.length)):=D
 have c:Own P (.slice j b.length M) 5 b.length 1 (b.map bv):=F
 clear D F G s r g
 refine sT [(7,.slice w (fv b.length) B),(8,nV (fv b.length)),(9,.int .i64 0)] fun a o=>cB 0 ?_
 have aV:Own P (.slice none 0 0) 39 0 32 (hcs (mM b 0)):=Own.nil _ _ _
 have r:=q.size
 replace d:=d.none r;clear r
 refine cL (fun m a h'=>∃k:Nat,∃I:Option Addr,∃u:Nat,m=fv b.length - k∧(Ext h h')∧(bq h')∧(k≤fv b.length)∧(Own h' (.slice I k u) 39 k 32 (hcs (mM b k)))∧(Own h' (.slice w (fv b.length) B) 32 (fv b.length) 1 (tL j b (fv b.length)))∧(Own h' (.slice j b.length M) 5 b.length 1 (b.map bv))∧(Sep h.size h'.size [I.map (·.block),w.map (·.block),j.map (·.block)])∧(Fr a 20 [(3,.slice I k u),(7,.slice w (fv b.length) B),(8,.int .i64 ((fv b.length :Nat):Int)),(9,.int .i64 ((k:Nat):Int))])) (fv b.length - 0) ⟨0,none,0,rfl,q,kt,(by omega),aV,f,c,d,o.to⟩ ?_
 clear o a
 clear q
 clear kt
 clear aV
 clear f
 clear c
 clear d
 rintro m a Y ⟨k,I,u,rfl,q,kt,Z,aV,f,c,d,o⟩
 refine qP [(10,.bool (decide (((k:Nat):Int)<((fv b.length :Nat):Int))))] o fun a o=>cS<|cJ 10 o (fun Q=> ?_) fun Q=> ?_
 ·have R:k<fv b.length :=by omega
  obtain⟨S,rfl,_⟩:=f.bf (by omega)
  refine cN<|tK<|cS<|cB 1<|qS o<|tI 0 S (fv b.length) 1 k k<|tC 1 (.slice (tE j k) ((ck b k).length) ((ck b k).length)) (Calm.load (T:=32) (p:=(Addr.add S k)) (by kernel_rfl) (Loads.one (k:=1) (by kernel_rfl) (w3 (i:=k) f rfl (by omega)))) ?_
  refine sT [(5,.slice (tE j k) ((ck b k).length) ((ck b k).length))] fun a o=>rS o<|tG 2 (pQ _ (ck b k) (tE j k) ((ck b k).length) (wZ c.row R) (.inr fun k2 e=>Bx (b:=b) (i:=k) c e) kt (by rw[iU];omega)) ?_
  rintro _ V ⟨rfl,K⟩
  refine tF 3 (Does.newHs (L:=[cV (ck b k)]) (t:=45) (E:=39) (db:=32) (n:=1) (by kernel_rfl) (by kernel_rfl) (aq.cons (dG _) aq.nil) rfl (by decide) (by decide)) ?_
  rintro _ N ⟨rfl,U⟩
  have x:Ext V N:=aT U
  have J:N[V.size]? =some (.cells (hcs [cV (ck b k)]).toArray 39):=bj U
  clear U
  replace q:=q.ext K
  have r:=q.size
  replace d:=d.up K.size
  have s:=d
  replace d:=s.new r (aj J)
  clear s r
  replace aV:=(aV.ext K).ext x
  refine tP 4 (k+1) 32 (hcs (mM b k++[cV (ck b k)])) aV (hrow1 (dG _) J) (di _) (fun y z X aV A H=> ?_) (ys:=(hcs ([cV (ck b k)]))) (hZ:=by first|rfl|exact(aX _ _).symm |simp[aX])
  replace q:=q.ext x
  have C:=d
  replace d:=d.sa A 1 H aV q.size;clear H
  refine sE [(3,.slice y (k+1) z)] fun a o=>bK<|tK<|rS o<|tA 0 k 1<|sE [(9,nV (k+1))] fun a o=> ?_
  rw[pL] at aV
  clear J
  replace kt:=((kt.ext K).ext x).grew A (C.zero 1 rfl O)
  replace f:=((f.ext K).ext x).k A (C.ap 2 1)
  replace c:=((c.ext K).ext x).k A (C.ap 3 1)
  replace q:=q.grew A (C.l 1)
  replace d:=d.sub (l':=[y.map (·.block),(some S).map (·.block),j.map (·.block)]) (.cons _ (.cons_cons _ (.cons_cons _ (.cons_cons _ (.slnil)))))
  show ∃m',m'<_∧_
  refine⟨_,?_,(k+1),y,z,rfl,q,kt,(by omega),aV,f,c,d,o.to⟩
  omega
 ·refine cX 0 (xT (xT (xB ?_)))
  refine tK<|qP [(2,.slice I k u)] o fun a o=>cR<|rT 2 (.slice I k u) o ?_
  obtain rfl:k=fv b.length :=by omega
  exact⟨I,u,by rw[iq],by rw[iq];exact aV,d.low 0 rfl,q⟩
theorem vi(h:Heap)(b:List UInt8)(va:Option Addr)(vc:Nat)(hr:Row h (.slice va b.length vc) b.length 1 (b.map bv))(hbl:b.length ≤1099511627000)(kt:bq h)(H:List Hs)(hH:mM b (fv b.length)=H):Sat Tryz.prog 97 #[.slice va b.length vc] h fun v h'=>∃ad cap,v= .slice ad H.length cap∧Own h' (.slice ad H.length cap) 39 H.length 32 (hcs H)∧(∀k,ad.map (fun(x:Addr)=>x.block)=some k→h.size ≤k)∧Ext h h':=by
 have:=pW h b va vc hr hbl kt
 unfold bU at this
 rwa [hH] at this
noncomputable def b63:Code:=Tryz.f63.body.getD .skip
theorem vj(h:Heap)(b:List UInt8)(va:Option Addr)(vc:Nat)(hr:Row h (.slice va b.length vc) b.length 1 (b.map bv))(hbl:b.length ≤1099511627000)(kt:bq h):Sat Tryz.prog 63 #[.slice va b.length vc] h fun v h'=>v=hv (root (mM b (fv b.length)))∧Ext h h':=by
 have f:=Ext.refl h
 have d:Sep h.size h.size []:=Sep.nil _ _
 obtain⟨H,k⟩:∃H,mM b (fv b.length)=H:=⟨_,rfl⟩
 have e:aq H:=k▸rM _ _
 have u:H.length =fv b.length :=by rw[←k,iq]
 have w:=lZ b.length
 refine ag Tryz.func63 6 fun a i=>qS i<|tN 0 (pV h.size) ((z32.map bv).toArray) 39 fun z r g=> ?_
 replace d:=d.nw f.size g
 refine sT [(2,pV h.size)] fun a i=>qS i ?_
 replace f:=f.ext r
 replace kt:=kt.ext r
 refine tG 1 (vi _ b _ _ (hr.ext f) hbl kt H k) ?_
 rintro _ A ⟨y,s,rfl,c,n,m⟩
 replace d:=d.co m n c f.size
 replace kt:=kt.ext m
 refine tG 2 (iA _ H _ _ H.length (HR.of c e) kt (by omega)) ?_
 rintro _ o ⟨rfl,t⟩
 replace g:=(g.x m).x t
 refine tF 3 (Does.store (b:=h.size) (off:=0) (vs:=(root H).map bv) (l:=z32.map bv) (bw (by kernel_rfl) (hlm (bg e))) g (hfit rfl (bg e)) (aB _)) ?_
 rintro _ j ⟨rfl,p⟩
 have q:Grew (some (h.size)) o j:=bD p
 replace g:j[h.size]? =some (.cells ((root H).map bv).toArray 39):=bR (off:=0) (vs:=(root H).map bv) (l:=(z32.map bv)) p (cA rfl (bg e)) g
 clear p
 refine sT [] fun a i=>cR<|aA [.cell 2 39] [.agg ((root H).map bv).toArray] (.agg ((root H).map bv).toArray) rfl i ⟨⟨_,rfl,Loads.hash (by kernel_rfl) (bg e) g⟩,trivial⟩ rfl ?_
 replace f:=((f.ext m).ext t).grew q (d.l 1)
 exact⟨by rw[k];rfl,f⟩
end Go.Proofs.YtegkejcglfgpmaaGreatDoor
end
section
namespace Go.aL
open Go Go.ai
structure An where
  c:Int
  b:List UInt8
  sx:RB
  se:Int
  sh:Bool
  sg:Bool
  i:List ByteArray
  n:Int
  y:RB
  k:Int
  p:List (List UInt8)
def dy:An:=⟨0,[],dF,0,false,false,[],0,dF,0,[]⟩
def cm(c:Int):An:={dy with c:=c}
@[reducible] def pX(A:An)(b i p:Value):Value:= .agg (bb A.c b A.sx A.se A.sh A.sg i A.n A.y A.k p).toArray
def AnsAt(h:Heap)(v:Value)(A:An):Prop:=∃ba bc ia ic pa pc,v=pX A (.slice ba A.b.length bc) (.slice ia A.i.length ic) (.slice pa A.p.length pc)∧
  ay h (.slice ba A.b.length bc) A.b.length 1 (A.b.map bv)∧ay h (.slice ia A.i.length ic) A.i.length 1 (A.i.map Value.string)∧ay h (.slice pa A.p.length pc) A.p.length 32 (hcs A.p)∧aq A.p
section
variable {h h':Heap} {v:Value} {A:An}
theorem iX(h:Heap)(c:Int):AnsAt h (pX (cm c) (.slice none 0 0) (.slice none 0 0) (.slice none 0 0)) (cm c):=
  ⟨none,0,none,0,none,0,rfl,ay.nil _ _,ay.nil _ _,ay.nil _ _,aq.nil⟩
end
def AF(a b c:Option Addr)(k:Nat):Prop:=a.map (fun(x:Addr)=>x.block)=some k∨b.map (fun(x:Addr)=>x.block)=some k∨c.map (fun(x:Addr)=>x.block)=some k
theorem AF.nil{k:Nat}(e:AF none none none k):False:=by rcases e with e|e|e<;>cases e
def oN(W:Nat→Prop)(lo:Nat)(h:Heap)(b p:Nat)(M:Md)(v:Value)(A:An):Prop:=∃ba bc ia ic pa pc,v=pX A (.slice ba A.b.length bc) (.slice ia A.i.length ic) (.slice pa A.p.length pc)∧
  Own h (.slice ba A.b.length bc) 5 A.b.length 1 (A.b.map bv)∧Own h (.slice ia A.i.length ic) 9 A.i.length 1 (A.i.map Value.string)∧Own h (.slice pa A.p.length pc) 39 A.p.length 32 (hcs A.p)∧aq A.p ∧
  (∀k,AF ba ia pa k→lo≤k)∧eY (fun k=>W k∨AF ba ia pa k) h b p M
section
variable {W:Nat→Prop} {lo:Nat} {h h' h0:Heap} {b p:Nat} {M:Md} {v:Value} {A:An}
theorem oN.at_(a:oN W lo h b p M v A):AnsAt h v A:=by
  obtain⟨ba,bc,ia,ic,pa,pc,e,r1,r2,r3,r4,_⟩:=a
  exact⟨ba,bc,ia,ic,pa,pc,e,ay.of r1 (by decide),ay.of r2 (by decide),ay.of r3 (by decide),r4⟩
theorem oN.mod(a:oN W lo h b p M v A):eY W h b p M:=by
  obtain⟨ba,bc,ia,ic,pa,pc,e,r1,r2,r3,r4,_,m⟩:=a
  exact m.less fun k hk=> .inl hk
theorem fB{n:Nat}:∀k,(none:Option Addr).map (fun(x:Addr)=>x.block)=some k→n≤k:=fun k e=>by cases e
theorem iB{L:List bW}{ck:Nat}{ea:Option Addr}{ec:Nat}{es:List Value}(md:bJ W h0 b p M L ck ea ec es)(e:Ext h0 h){ba ia pa:Option Addr}{bc ic pc:Nat}(hv:v=pX A (.slice ba A.b.length bc) (.slice ia A.i.length ic) (.slice pa A.p.length pc))(o1:Own h (.slice ba A.b.length bc) 5 A.b.length 1 (A.b.map bv))(g1:∀k,ba.map (fun(x:Addr)=>x.block)=some k→h0.size ≤k)
    (o2:Own h (.slice ia A.i.length ic) 9 A.i.length 1 (A.i.map Value.string)) (g2:∀k,ia.map (fun(x:Addr)=>x.block)=some k→h0.size ≤k) (o3:Own h (.slice pa A.p.length pc) 39 A.p.length 32 (hcs A.p)) (g3:∀k,pa.map (fun(x:Addr)=>x.block)=some k→h0.size ≤k) (h32:aq A.p):
    oN W h0.size h b p M v A:=
  have hge:∀k,AF ba ia pa k→h0.size ≤k:=fun k e=>e.elim (g1 k) (Or.rec (g2 k) (g3 k))
  ⟨ba,bc,ia,ic,pa,pc,hv,o1,o2,o3,h32,hge,_,_,_,_,_,(md.more fun k=>Or.imp id (hge k)).ext e⟩
theorem ky(m:eY W h b p M)(c:Int):oN W lo h b p M (pX (cm c) (.slice none 0 0) (.slice none 0 0) (.slice none 0 0)) (cm c):=
  ⟨none,0,none,0,none,0,rfl,Own.nil _ _ _,Own.nil _ _ _,Own.nil _ _ _,aq.nil,fun _ e=>e.nil.elim,m.less fun _ e=>e.elim id fun e=>e.nil.elim⟩
theorem gh{L:List bW}{ck:Nat}{ea:Option Addr}{ec:Nat}{es:List Value}(md:bJ W h0 b p M L ck ea ec es)(e:Ext h0 h)(c:Int):oN W lo h b p M (pX (cm c) (.slice none 0 0) (.slice none 0 0) (.slice none 0 0)) (cm c):=ky ⟨_,_,_,_,_,md.ext e⟩ c
theorem _root_.Go.ai.Own.aM{c:Nat}{cs:Array Value}{E E2:TypeId}{fr:Nat×Nat}{n sz:Nat}{xs:List Value}(o:Own h v E n sz xs)(g:Grew (some c) h h')(m:h[c]? =some (.cells cs E2 fr))(hne:E≠E2):Own h' v E n sz xs:=by
  refine o.kept g ?_
  rcases o.2 with⟨rfl,_⟩|⟨k,off,cap,l,rfl,q,_⟩
  · exact .inl rfl
  · refine .inr fun e => ?_
    simp only[aZ,Option.some.injEq] at e
    subst e
    rw[q] at m;cases m;exact hne rfl
end
end Go.aL
namespace Go.Proofs.YtegkejcglfgpmaaGreatDoor
open Go Go.ai Go.aL
noncomputable def dm(M:Md)(kd:Int)(s:ByteArray):An:=
  if aK s=false then cm 210 else match M.f s with
    |none=>cm 211
    | some o => if kd = 3 then { dy with sx := o.b, se := o.e, sh := o.ho, sg := o.go } else if kd = 16 then { dy with c := (cO (cP M.E) o.b.idx).2, k := o.b.idx, p := (cO (cP M.E) o.b.idx).1 } else
      if o.go =true then cm 213 else if kd=2 then {dy with b:=o.dt } else dy
section
variable {M:Md} {kd n:Int} {s:ByteArray} {b:List UInt8} {o:Ob}
theorem t_(h:aK s=false):dm M kd s=cm 210:=by unfold dm;rw[if_pos h]
theorem kA(h:aK s=true)(hf:M.f s=none):dm M kd s=cm 211:=by unfold dm;rw[if_neg (by rw[h];decide),hf]
theorem nO(h:aK s=true)(hf:M.f s=some o)(k:kd=3):dm M kd s={dy with sx:=o.b,se:=o.e,sh:=o.ho,sg:=o.go }:=by unfold dm;rw[if_neg (by rw[h];decide),hf];simp only[k,if_true]
theorem mc(h:aK s=true)(hf:M.f s=some o)(k:kd=16){p:List (List UInt8)}{e:Int}(hz:cO (cP M.E) o.b.idx =(p,e)):dm M kd s={dy with c:=e,k:=o.b.idx,p:=p}:=by unfold dm;rw[if_neg (by rw[h];decide),hf];subst k;simp[hz]
theorem nP(h:aK s=true)(hf:M.f s=some o)(k:kd≠3)(k2:kd≠16)(hg:o.go =true):dm M kd s=cm 213:=by unfold dm;rw[if_neg (by rw[h];decide),hf];simp only[k,k2,if_false,hg,if_true]
theorem me(h:aK s=true)(hf:M.f s=some o)(k:kd=2)(hg:o.go =false):dm M kd s={dy with b:=o.dt }:=by unfold dm;rw[if_neg (by rw[h];decide),hf];subst k;simp[hg]
theorem nQ(h:aK s=true)(hf:M.f s=some o)(k:kd≠3)(k2:kd≠16)(k3:kd≠2)(hg:o.go =false):dm M kd s=dy:=by unfold dm;rw[if_neg (by rw[h];decide),hf];simp[k,k2,k3,hg]
end
noncomputable def step(M:Md)(kd n:Int)(s:ByteArray)(b:List UInt8):Md×An:=
  if kd=1 then ((du M s b).1,cm (du M s b).2) else if kd=4∨kd=5∨kd=6 then ((fL M kd n s).1,cm (fL M kd n s).2) else if kd=2∨kd=3∨kd=16∨kd=15 then (M,dm M kd s) else
    if kd=7 then (M,{dy with i:=iW M}) else if kd=8 then (M,{dy with i:=eZ M}) else if kd=9 then (M,{dy with n:=((M.E.length :Nat):Int),y:=pN (root (cP M.E))}) else
    if kd=10 then (⟨M.f,M.E,M.t +min (max 0 n) (1099511627776 - M.t)⟩,dy) else if kd=11∨kd=12∨kd=13∨kd=14 then (M,dy) else (M,cm 1)
section
variable {M:Md} {kd n:Int} {s:ByteArray} {b:List UInt8}
theorem gW(k:kd=1):step M kd n s b=((du M s b).1,cm (du M s b).2):=by unfold step;rw[if_pos k]
theorem fp(k:kd=4∨kd=5∨kd=6):step M kd n s b=((fL M kd n s).1,cm (fL M kd n s).2):=by unfold step;rw[if_neg (by omega),if_pos k]
theorem dI(k:kd=2∨kd=3∨kd=16∨kd=15):step M kd n s b=(M,dm M kd s):=by unfold step;rw[if_neg (by omega),if_neg (by omega),if_pos k]
theorem pY(k:kd=7):step M kd n s b=(M,{dy with i:=iW M}):=by unfold step;rw[if_neg (by omega),if_neg (by omega),if_neg (by omega),if_pos k]
theorem pZ(k:kd=8):step M kd n s b=(M,{dy with i:=eZ M}):=by unfold step;rw[if_neg (by omega),if_neg (by omega),if_neg (by omega),if_neg (by omega),if_pos k]
theorem step_head(k:kd=9):step M kd n s b=(M,{dy with n:=((M.E.length :Nat):Int),y:=pN (root (cP M.E))}):=by unfold step;rw[if_neg (by omega),if_neg (by omega),if_neg (by omega),if_neg (by omega),if_neg (by omega),if_pos k]
theorem ep(k:kd=10):step M kd n s b=(⟨M.f,M.E,M.t +min (max 0 n) (1099511627776 - M.t)⟩,dy):=by unfold step;rw[if_neg (by omega),if_neg (by omega),if_neg (by omega),if_neg (by omega),if_neg (by omega),if_neg (by omega),if_pos k]
theorem cf(k:kd=11∨kd=12∨kd=13∨kd=14):step M kd n s b=(M,dy):=by unfold step;rw[if_neg (by omega),if_neg (by omega),if_neg (by omega),if_neg (by omega),if_neg (by omega),if_neg (by omega),if_neg (by omega),if_pos k]
theorem jC(h1:kd≠1)(h2:¬(kd=4∨kd=5∨kd=6))(h3:¬(kd=2∨kd=3∨kd=16∨kd=15))(h7:kd≠7)(h8:kd≠8)(h9:kd≠9)(h10:kd≠10)(h11:¬(kd=11∨kd=12∨kd=13∨kd=14)):step M kd n s b=(M,cm 1):=by
  unfold step;rw[if_neg h1,if_neg h2,if_neg h3,if_neg h7,if_neg h8,if_neg h9,if_neg h10,if_neg h11]
end
end Go.Proofs.YtegkejcglfgpmaaGreatDoor
end
section
namespace Go.ai
open Go Go.aL
section
variable {P:Program}
def FE(P:Program)(d:Nat)(xs ys:Array Value)(f:Field)(q:Bool):Prop:=∀w:World,∃a b,(part f.type xs f.offset).run P w= .ok a w∧(part f.type ys f.offset).run P w= .ok b w∧(Op.equalIn (d+1) f.type a b).run P w= .ok q w
theorem FE.bool{d:Nat}{xs ys:Array Value}{f:Field}{a b:Bool}(hu:P.underlying f.type =some .bool)(hx:xs[f.offset]? =some (.bool a))(hy:ys[f.offset]? =some (.bool b)):FE P d xs ys f (a==b):=fun w=>
  ⟨_,_,dE hu rfl hx w,dE hu rfl hy w,by simp[Op.equalIn,run_underlying hu]⟩
theorem FE.int{d:Nat}{xs ys:Array Value}{f:Field}{k k':IntKind}{a b:Int}(hu:P.underlying f.type =some (.int k'))(hx:xs[f.offset]? =some (.int k a))(hy:ys[f.offset]? =some (.int k b)):FE P d xs ys f (a==b):=fun w=>
  ⟨_,_,dE hu rfl hx w,dE hu rfl hy w,by simp[Op.equalIn,run_underlying hu]⟩
theorem FE.bytes{d n:Nat}{xs ys:Array Value}{f:Field}{e:TypeId}{inf zM:TypeInfo}{l r:List UInt8}(hu:P.underlying f.type =some (.array n e))(he:P.underlying e=some (.int .u8))(hi:P.info? e=some inf)(hs:inf.size =1)(hi2:P.info? f.type =some zM)(hs2:zM.size =n)
    (hx:xs.extract f.offset (f.offset +n)=(l.map bv).toArray) (hy:ys.extract f.offset (f.offset +n)=(r.map bv).toArray) (hl:l.length =n) (hr:r.length =n):FE P (d+1) xs ys f (decide (l=r)):=fun w=>by
  have hp:∀zs:Array Value,(part f.type zs f.offset).run P w= .ok (.agg (zs.extract f.offset (f.offset +n))) w:=fun zs=>by
    unfold part
    simp[isAgg,run_underlying hu,sizeOf,typeInfo,program,Sem.run,hi2,hs2]
  exact⟨_,_,hp xs,hp ys,by rw[hx,hy];exact f_ d hu he hi hs l r hl hr w⟩
inductive CJ(P:Program)(d:Nat)(xs ys:Array Value):List Field→List Bool→Prop
  |nil:CJ P d xs ys [] []
  |cons {f fs q qs} (h:FE P d xs ys f q) (hn:f.name ≠ "_") (t:CJ P d xs ys fs qs):CJ P d xs ys (f::fs) (q::qs)
theorem iO{t:TypeId}{fs:Array Field}{d:Nat}{xs ys:Array Value}{qs:List Bool}(ht:P.underlying t=some (.struct fs))(hs:P.stoodInHeld t=false)(hq:CJ P d xs ys fs.toList qs)(w:World):
    (Op.equalIn (d+2) t (.agg xs) (.agg ys)).run P w= .ok (qs.all id) w:=by
  have hloop:∀(l:List Field) (qs:List Bool),CJ P d xs ys l qs→(forIn l ((none:Option Bool),()) fun f __s=>(do
            if f.name ≠ "_" then do
              let a←part f.type xs f.offset
              let b←part f.type ys f.offset
              let c←Op.equalIn (d+1) f.type a b
              if (!c)=true then pure (ForInStep.done (some false,())) else pure (ForInStep.yield (none,()))
            else pure (ForInStep.yield (none,())):Sem (ForInStep (Option Bool×Unit)))).run P w= .ok (if qs.all id=true then none else some false,()) w:=by
    intro l qs h
    induction h with
    |nil=>rfl
    | @cons f fs q qs h hn t ih =>
      obtain⟨a,b,e1,e2,e3⟩:=h w
      rw[List.forIn_cons]
      simp only[hn,if_true,Sem.run_bind,e1,e2,e3,Result.andThen_ok,ne_eq,not_false_eq_true]
      cases q with
      |true=>simp only[Bool.not_true,Bool.false_eq_true,if_false,Sem.run_pure,Result.andThen_ok,List.all_cons,id,Bool.true_and];exact ih
      |false=>simp
  unfold Op.equalIn
  simp only[Sem.run_bind,run_underlying ht,Result.andThen_ok,program,Sem.run,hs,Bool.false_eq_true,if_false, ←Array.forIn_toList]
  have:=hloop fs.toList qs hq
  first|rw[this]| (erw [this])
  cases qs.all id<;>simp
def CK (P : Program) (e : Operand → Value) (o : Oper) : Option (Bool × TypeId × Array Value × Array Value) :=
  match o.op with
  | .binOp op t x y _ => match e x, e y with
    | .agg a, .agg b => match P.eqGuardType P.depth t with
      | false => match op with
        | .eql =>some (true,t,a,b)
        | .neq =>some (false,t,a,b)
        |_=>none
      |true=>none
    |_,_=>none
  |_=>none
def CL(P:Program)(ops:Array Oper)(base:Nat→Value)(vals:aQ)(i:Nat):=(i_ ops base vals i).bind (CK P (env ops base vals i))
theorem Calm.CM{ops:Array Oper}{base:Nat→Value}{vals:aQ}{i:Nat}{q r:Bool}{t:TypeId}{xs ys:Array Value}(hx:CL P ops base vals i=some (q,t,xs,ys))(hr:∀w:World,(Op.equalIn 10000 t (.agg xs) (.agg ys)).run P w= .ok r w)(h:Heap):
    Calm P ops base vals i h (.bool (if q=true then r else !r)):=by
  refine aO hx fun o ho w hw=> ?_
  have hrun:(execOp (env ops base vals i) o).run P w= .ok (.value (.bool (if q=true then r else !r))) w:=by
    unfold CK at ho
    cases hop:o.op with
    | binOp op t x y T' =>
      simp only[hop] at ho
      cases ha:env ops base vals i x<;>simp only[ha] at ho<;>first| (cases ho;done)|skip
      cases hb:env ops base vals i y<;>simp only[hb] at ho<;>first| (cases ho;done)|skip
      cases hg:P.eqGuardType P.depth t with
      |true=>simp[hg] at ho
      | false =>
        simp only[hg] at ho
        cases op<;>simp only[Option.some.injEq,Prod.mk.injEq] at ho<;>first| (cases ho;done)|skip
        · obtain ⟨rfl, rfl, h1, h2⟩ := ho
          subst h1;subst h2
          unfold execOp
          simp[hop,eqGuard,binOp,ha,hb,hg,Op.equal,Op.maxDepth,hr w,program,Sem.run]
        · obtain ⟨rfl, rfl, h1, h2⟩ := ho
          subst h1;subst h2
          unfold execOp
          simp[hop,eqGuard,binOp,ha,hb,hg,Op.equal,Op.maxDepth,hr w,program,Sem.run]
    |_=>simp[hop] at ho
  rw[hrun]
  exact⟨Same.refl w,rfl,hw⟩
end
end Go.ai
namespace Go.aL
open Go Go.ai
def fJ(x:RB)(e:Int)(ho go:Bool)(x':RB)(e':Int)(ho' go':Bool):Bool:=[x.len ==x'.len,decide (hl x=hl x'),x.idx ==x'.idx,e==e',ho==ho',go==go'].all id
def kT(n:Int)(y:RB)(n':Int)(y':RB):Bool:=[n==n',decide (hl y=hl y')].all id
theorem dR(x:RB)(e:Int)(ho go:Bool):fJ x e ho go x e ho go=true:=by simp[fJ]
theorem ff(n:Int)(y:RB):kT n y n y=true:=by simp[kT]
end Go.aL
namespace Go.Proofs.YtegkejcglfgpmaaGreatDoor
open Go Go.ai Go.aL
theorem jD(x:RB)(e:Int)(ho go:Bool)(x':RB)(e':Int)(ho' go':Bool)(w:World):(Op.equalIn 10000 41 (.agg (wa x e ho go).toArray) (.agg (wa x' e' ho' go').toArray)).run Tryz.prog w= .ok (fJ x e ho go x' e' ho' go') w:=by
  refine iO (d:=9998) Tryz.underlying41 (by kernel_rfl) ?_ w
  exact .cons (.int (k':= .i64) (by kernel_rfl) rfl rfl) (by decide)<| .cons (.bytes (d:=9997) (n:=32) (e:=5) (l:=hl x) (r:=hl x') (inf:=Tryz.t5) (zM:=Tryz.t39) (by kernel_rfl) (by kernel_rfl) (by kernel_rfl) (by kernel_rfl) (by kernel_rfl) (by kernel_rfl) (by kernel_rfl) (by kernel_rfl) rfl rfl) (by decide)<| .cons (.int (k':= .i64) (by kernel_rfl) rfl rfl) (by decide)<| .cons (.int (k':= .i64) (by kernel_rfl) rfl rfl) (by decide)<| .cons (.bool (by kernel_rfl) rfl rfl) (by decide)<| .cons (.bool (by kernel_rfl) rfl rfl) (by decide)<| .nil
theorem xe(n:Int)(y:RB)(n':Int)(y':RB)(w:World):(Op.equalIn 10000 44 (.agg (hdc n y).toArray) (.agg (hdc n' y').toArray)).run Tryz.prog w= .ok (kT n y n' y') w:=by
  refine iO (d:=9998) Tryz.underlying44 (by kernel_rfl) ?_ w
  exact .cons (.int (k':= .i64) (by kernel_rfl) rfl rfl) (by decide)<| .cons (.bytes (d:=9997) (n:=32) (e:=5) (l:=hl y) (r:=hl y') (inf:=Tryz.t5) (zM:=Tryz.t39) (by kernel_rfl) (by kernel_rfl) (by kernel_rfl) (by kernel_rfl) (by kernel_rfl) (by kernel_rfl) (by kernel_rfl) (by kernel_rfl) rfl rfl) (by decide)<| .nil
end Go.Proofs.YtegkejcglfgpmaaGreatDoor
namespace Go.aL
open Go Go.ai
/-! ### a clone -/
def pr(x:bW):ByteArray×Value:=(x.1,x.2.1)
theorem fU{W:Nat→Prop}{es:List Value}{h:Heap}{E:List (List UInt8)}(en:eQ W h es E):∀u∈es,u.oneCell' =true:=fun u hu=>by
  obtain⟨i,hi,rfl⟩:=List.getElem_of_mem hu
  have hl:i<E.length :=by rw[←en.1];exact hi
  obtain⟨_,a,c,e,_⟩:=en.2 i _ (List.getElem?_eq_getElem hl)
  rw[List.getElem?_eq_getElem hi] at e
  rw[Option.some.inj e];rfl
theorem xf{N D:List bW}(h:N.map pr=D.map pr){x:bW}(hx:x∈N):∃y∈D,y.1 =x.1 ∧y.2.1 =x.2.1 :=by
  have:pr x∈D.map pr:=h▸List.mem_map.2 ⟨x,hx,rfl⟩
  obtain⟨y,hy,e⟩:=List.mem_map.1 this
  simp only[pr,Prod.mk.injEq] at e
  exact⟨y,hy,e.1,e.2⟩
theorem BD{N D:List bW}(h:N.map pr=D.map pr):N.map (fun x=>x.1)=D.map fun x=>x.1 :=by
  have e:∀l:List bW,l.map (fun x=>x.1)=(l.map pr).map Prod.fst :=fun l=>by rw[List.map_map];rfl
  rw[e,e,h]
theorem ua{N D:List bW}(h:N.map pr=D.map pr){x:bW}{v:Value}(hv:x.2.1 =v)(k:Nat):(N++[(x.1,v,k)]).map pr=(D++[x]).map pr:=by
  rw[List.map_append,List.map_append,h];subst hv;rfl
theorem xg{N D R L:List bW}{x:bW}(h:N.map pr=D.map pr)(hp:(D++[x]++R).Perm L)(nd:(L.map fun x=>x.1).Nodup):∀y∈N,y.1 ≠x.1 :=fun y hy e=>by
  obtain⟨z,hz,e1,_⟩:=xf h hy
  have hn:((D++[x]++R).map fun x=>x.1).Nodup :=(hp.map _).nodup_iff.2 nd
  rw[List.append_assoc,List.map_append,List.nodup_append] at hn
  exact hn.2.2 z.1 (List.mem_map.2 ⟨z,hz,rfl⟩) x.1 (by simp) (e1.trans e)
theorem _root_.Go.ai.Born.nil :Born [] ([]:List bW).length :=⟨by simp,by simp⟩
theorem _root_.Go.ai.Born.one{N:List bW}(b:Born N N.length)(s:ByteArray)(v:Value):Born (N++[(s,v,N.length)]) (N++[(s,v,N.length)]).length :=by
  rw[List.length_append,List.length_singleton];exact b.snoc s v
theorem bJ.cloned{W:Nat→Prop}{h h':Heap}{b p c q:Nat}{M:Md}{L N D:List bW}{ck:Nat}{ea ca:Option Addr}{ec cc:Nat}{es:List Value}(m:bJ W h b p M L ck ea ec es)(e:Ext h h')(hc:h'[c]? =some (.cells #[.map (some q), .slice ca M.E.length cc, .int .i64 M.t] 83))(hq:h'[q]? =some (.map (ents N) N.length))
    (hN:N.map pr=D.map pr) (hP:D.Perm L) (bo:Born N N.length) (own:Own h' (.slice ca M.E.length cc) 32 M.E.length 1 es) (kc:h.size ≤c) (kq:h.size ≤q) (hW:∀k,W k→k<h.size) (hge:∀k,ca.map (fun(x:Addr)=>x.block)=some k→h.size ≤k):eY W h' c q M:=
  have hl:N.length =L.length :=by have:=congrArg List.length hN;simp at this;rw[this,hP.length_eq]
  have kb:=m.kb
  have hb:=aj m.hm
  ⟨N,N.length,ca,cc,es,
  { hm := hc
    hp:=hq
    bo:=bo
    nd:=by rw[BD hN];exact(hP.map _).nodup_iff.2 m.nd
    ob:=fun x hx=>by
      obtain⟨y,hy,e1,e2⟩:=xf hN hx
      obtain⟨o,h1,h2⟩:=m.ob y (hP.mem_iff.1 hy)
      rw[e1] at h1 h2;rw[e2] at h2
      exact⟨o,h1,h2.ext e⟩
    al:=fun s o hs=>by
      obtain⟨y,hy,e1⟩:=m.al s o hs
      have:pr y∈N.map pr:=hN▸List.mem_map.2 ⟨y,hP.mem_iff.2 hy,rfl⟩
      obtain⟨x,hx,e2⟩:=List.mem_map.1 this
      simp only[pr,Prod.mk.injEq] at e2
      exact⟨x,hx,e2.1.trans e1⟩
    er:=cz.new own (by decide) hW hge
    en:=m.en.ext e
    ln:=by rw[hl,m.ln]
    t0:=m.t0
    t1:=m.t1
    kb:=by omega
    kp:=by omega}⟩
end Go.aL
namespace Go.aL
open Go Go.ai
theorem bJ.at{W:Nat→Prop}{h:Heap}{b p:Nat}{M:Md}{L:List bW}{ck:Nat}{ea:Option Addr}{ec:Nat}{es:List Value}(m:bJ W h b p M L ck ea ec es){s:ByteArray}{o:Ob}(hf:M.f s=some o):
    ∃x∈L,x.1 =s∧∃ca cc ba bc,x.2.1 =CG o (.slice ca 0 cc) (.slice ba o.dt.length bc)∧ay h (.slice ba o.dt.length bc) o.dt.length 1 (o.dt.map bv):=by
  rcases m.find s with⟨h1,_⟩|⟨A,x,B,o',rfl,h2,h3,_,_,ca,cc,ba,bc,h4,_,h5⟩
  · rw[hf] at h1;cases h1
  · rw [hf] at h3; cases h3
    exact⟨x,by simp,h2,ca,cc,ba,bc,h4,h5.1⟩
/-! ### the judge -/
def au(A B:An):Int:=
  if A.c ≠B.c then 1 else if A.b ≠B.b then 2 else if fJ A.sx A.se A.sh A.sg B.sx B.se B.sh B.sg =false then 3 else if A.i ≠B.i then 4 else if kT A.n A.y B.n B.y =false then 5 else if A.k ≠B.k ∨A.p ≠B.p then 6 else 0
section
variable {A B:An}
theorem xh(h:A.c ≠B.c):au A B=1:=by unfold au;rw[if_pos h]
theorem rule2(h1:A.c =B.c)(h:A.b ≠B.b):au A B=2:=by unfold au;rw[if_neg (fun k=>k h1),if_pos h]
theorem AZ(h1:A.c =B.c)(h2:A.b =B.b)(h:fJ A.sx A.se A.sh A.sg B.sx B.se B.sh B.sg =false):au A B=3:=by unfold au;rw[if_neg (fun k=>k h1),if_neg (fun k=>k h2),if_pos h]
theorem A1(h1:A.c =B.c)(h2:A.b =B.b)(h3:fJ A.sx A.se A.sh A.sg B.sx B.se B.sh B.sg =true)(h:A.i ≠B.i):au A B=4:=by unfold au;rw[if_neg (fun k=>k h1),if_neg (fun k=>k h2),if_neg (by rw[h3];decide),if_pos h]
theorem A2(h1:A.c =B.c)(h2:A.b =B.b)(h3:fJ A.sx A.se A.sh A.sg B.sx B.se B.sh B.sg =true)(h4:A.i =B.i)(h:kT A.n A.y B.n B.y =false):au A B=5:=by unfold au;rw[if_neg (fun k=>k h1),if_neg (fun k=>k h2),if_neg (by rw[h3];decide),if_neg (fun k=>k h4),if_pos h]
theorem ub(h1:A.c =B.c)(h2:A.b =B.b)(h3:fJ A.sx A.se A.sh A.sg B.sx B.se B.sh B.sg =true)(h4:A.i =B.i)(h5:kT A.n A.y B.n B.y =true)(h:A.k ≠B.k ∨A.p ≠B.p):au A B=6:=by
  unfold au;rw[if_neg (fun k=>k h1),if_neg (fun k=>k h2),if_neg (by rw[h3];decide),if_neg (fun k=>k h4),if_neg (by rw[h5];decide),if_pos h]
theorem p_(h1:A.c =B.c)(h2:A.b =B.b)(h3:fJ A.sx A.se A.sh A.sg B.sx B.se B.sh B.sg =true)(h4:A.i =B.i)(h5:kT A.n A.y B.n B.y =true)(h6:A.k =B.k)(h7:A.p =B.p):au A B=0:=by
  unfold au;rw[if_neg (fun k=>k h1),if_neg (fun k=>k h2),if_neg (by rw[h3];decide),if_neg (fun k=>k h4),if_neg (by rw[h5];decide),if_neg (by rintro(k|k);exact k h6;exact k h7)]
end
/-! strings, lists -/
theorem jE(s t:ByteArray):(s.toList ==t.toList)=decide (s=t):=by
  by_cases e:s=t
  · subst e;simp
  · rw [decide_eq_false e]
    cases h:(s.toList ==t.toList) with
    |false=>rfl
    | true =>
      exfalso
      have h1:=eq_of_beq h
      rw[Lib.toList_data,Lib.toList_data] at h1
      apply e
      cases s;cases t
      simp only[ByteArray.mk.injEq]
      rename_i a b
      rw[←Array.toArray_toList (xs:=a), ←Array.toArray_toList (xs:=b)]
      exact congrArg List.toArray h1
theorem mk_inj{a b:List UInt8}:(ByteArray.mk a.toArray =ByteArray.mk b.toArray)↔a=b:=by
  constructor
  · intro h;simpa using h
  · intro h;rw[h]
theorem xj(a b:List UInt8):((ByteArray.mk a.toArray).toList ==(ByteArray.mk b.toArray).toList)=decide (a=b):=by
  rw[jE];exact decide_eq_decide.2 mk_inj
theorem qb{α:Type}[Inhabited α]{l r:List α}{k:Nat}{d:α}(h:l.take k=r.take k)(hl:k<l.length)(hr:k<r.length)(e:l.getD k d=r.getD k d):l.take (k+1)=r.take (k+1):=by
  rw[List.take_succ_eq_append_getElem hl,List.take_succ_eq_append_getElem hr,h]
  have:l[k]=r[k]:=by simpa[List.getD,hl,hr] using e
  rw[this]
theorem mf{α:Type}{l r:List α}{k:Nat}{d:α}(e:l.getD k d≠r.getD k d):l≠r:=fun h=>e (by rw[h])
/-! ### candidates -/
structure CA(h:Heap)(bs:List (Nat×Nat))(Ms:List Md):Prop where
  len:bs.length =Ms.length
  at_:∀(i:Nat) (x:Nat×Nat) (M:Md),bs[i]? =some x→Ms[i]? =some M→Mod h x.1 x.2 M
  nb:(bs.map fun x=>x.1).Nodup
  np:(bs.map fun x=>x.2).Nodup
theorem A3{α β:Type}{l:List α}{f:α→β}(h:(l.map f).Nodup){i j:Nat}{x y:α}(hi:l[i]? =some x)(hj:l[j]? =some y)(hne:i≠j):f x≠f y:=fun e=>by
  have hi':(l.map f)[i]? =some (f x):=by rw[List.getElem?_map,hi];rfl
  have hj':(l.map f)[j]? =some (f x):=by rw[List.getElem?_map,hj,e];rfl
  obtain⟨h1,h2⟩:=List.getElem?_eq_some_iff.1 hi'
  obtain⟨h3,h4⟩:=List.getElem?_eq_some_iff.1 hj'
  have hp:=List.pairwise_iff_getElem.1 h
  rcases Nat.lt_or_gt_of_ne hne with k|k
  · exact hp i j h1 h3 k (h2.trans h4.symm)
  · exact hp j i h3 h1 k (h4.trans h2.symm)
section
variable {h h':Heap} {bs:List (Nat×Nat)} {Ms:List Md}
theorem Mod.kb{b p:Nat}{M:Md}(m:Mod h b p M):b<h.size ∧p<h.size :=by obtain⟨_,_,_,_,_,m⟩:=m;exact⟨aj m.hm,aj m.hp⟩
theorem CA.ext(c:CA h bs Ms)(g:Ext h h'):CA h' bs Ms:=⟨c.len,fun i x M h1 h2=>(c.at_ i x M h1 h2).ext g,c.nb,c.np⟩
theorem CA.fr{F:Nat→Prop}(c:CA h bs Ms)(g:Gr F h h')(hF:∀k,F k→aY h k)(h1:∀x∈bs,¬F x.1 ∧¬F x.2):CA h' bs Ms:=
  ⟨c.len,fun i x M e1 e2=>(c.at_ i x M e1 e2).fr g hF (h1 x (List.mem_of_getElem? e1)).1 (h1 x (List.mem_of_getElem? e1)).2,c.nb,c.np⟩
theorem CA.set{i:Nat}{x:Nat×Nat}{M M':Md}(c:CA h bs Ms)(hx:bs[i]? =some x)(hM:Ms[i]? =some M)(g:MG x.1 x.2 h h')(m':Mod h' x.1 x.2 M'):CA h' bs (Ms.set i M'):=by
  refine⟨by rw[List.length_set];exact c.len,fun j y N h1 h2=> ?_,c.nb,c.np⟩
  by_cases e:j=i
  · subst e
    rw[hx] at h1;cases h1
    have hl:=(List.getElem?_eq_some_iff.1 hM).1
    rw[List.getElem?_set_self hl] at h2;cases h2
    exact m'
  · rw [List.getElem?_set_ne (Ne.symm e)] at h2
    exact(c.at_ j y N h1 h2).other (c.at_ i x M hx hM) g (A3 c.nb h1 hx e) (A3 c.np h1 hx e)
end
theorem oO{α:Type}(f:α→α){l:List α}{i:Nat}{x:α}(h:l[i]? =some x):((l.take i).map f++l.drop i).set i (f x)=(l.take (i+1)).map f++l.drop (i+1):=by
  obtain⟨hi,rfl⟩:=List.getElem?_eq_some_iff.1 h
  have hl:((l.take i).map f).length =i:=by rw[List.length_map,List.length_take];omega
  rw[List.set_append_right _ _ (by omega),hl,Nat.sub_self,List.drop_eq_getElem_cons hi,List.set_cons_zero,List.take_succ_eq_append_getElem hi,List.map_append]
  simp
theorem kB{α:Type}(f:α→α){l:List α}{i:Nat}{x:α}(h:l[i]? =some x):((l.take i).map f++l.drop i)[i]? =some x:=by
  obtain⟨hi,rfl⟩:=List.getElem?_eq_some_iff.1 h
  have hl:((l.take i).map f).length =i:=by rw[List.length_map,List.length_take];omega
  rw[List.getElem?_append_right (by omega),hl,Nat.sub_self,List.getElem?_drop,Nat.add_zero];exact h
@[reducible] def mh(x:Nat×Nat):Value:= .pointer (some ⟨x.1,0,none⟩)
structure Jd where
  c:List Md
  off:Bool
  aC:Bool
  qd:Bool
  gave:Bool
def kU(h:Heap)(v:Value)(n:Nat)(xs:List Value):Prop:=Row h v n 1 xs∧(n=0∨∃k cs fr,aZ v=some k∧h[k]? =some (.cells cs 55 fr))
def zN(h:Heap)(k:Nat):Prop:=∀cs fr,h[k]? ≠some (.cells cs 55 fr)
theorem kU.fr{h h':Heap}{v:Value}{n:Nat}{xs:List Value}{F:Nat→Prop}(r:kU h v n xs)(g:Gr F h h')(hF:∀k,F k→zN h k):kU h' v n xs:=by
  rcases r.2 with h0|⟨k,ds,fr',e,m⟩
  · exact⟨r.1.zero h0, .inl h0⟩
  · have nk : ¬ F k := fun hk => hF k hk _ _ m
    have m':h'[k]? =some (.cells ds 55 fr'):=by rw[g.2 k (aj m) nk];exact m
    refine⟨⟨r.1.1,r.1.2.imp id ?_⟩, .inr ⟨k,ds,fr',e,m'⟩⟩
    rintro⟨a,cap,rfl,hc,hx⟩
    simp only[aZ,Option.some.injEq] at e
    subst e
    refine⟨a,cap,rfl,hc,fun j u hu=> ?_⟩
    rw[dP (h:=h) (h':=h') (p:=a.add j) (by rw[add_block,m',m])]
    exact hx j u hu
theorem kU.of{h:Heap}{v:Value}{n:Nat}{xs:List Value}(o:Own h v 55 n 1 xs):kU h v n xs:=by
  refine⟨o.row, ?_⟩
  rcases o.2 with⟨rfl,h0⟩|⟨g,off,cap,l,rfl,m,_⟩
  · exact .inl h0
  · exact .inr ⟨g,l,(0,0),rfl,m⟩
theorem kU.ext{h h':Heap}{v:Value}{n:Nat}{xs:List Value}(r:kU h v n xs)(g:Ext h h'):kU h' v n xs:=r.fr (F:=fun _=>False) ⟨g.1,fun k hk _=>g.2 k hk (by simp)⟩ (fun _ h=>h.elim)
structure JA(h:Heap)(jb:Nat)(bs:List (Nat×Nat))(J:Jd)(ca:Option Addr)(cc:Nat):Prop where
  hj:h[jb]? =some (.cells #[.slice ca bs.length cc, .bool J.off, .bool J.aC, .bool J.qd, .bool J.gave] 77)
  row:kU h (.slice ca bs.length cc) bs.length (bs.map mh)
  cs:CA h bs J.c
def JF(jb:Nat)(bs:List (Nat×Nat))(k:Nat):Prop:=k=jb∨∃x∈bs,k=x.1 ∨k=x.2
def hdF(f:Md→Md×Int):List Md→Int
  |[]=>0
  |M::_=>(f M).2
def bz(J:Jd)(f:Md→Md×Int):Jd×Int:=
  if (J.c.map f).filter (fun y=>decide (y.2 =0))=[] then ({J with c:=J.c.map fun M=>(f M).1 },hdF f J.c)
  else ({J with c:=((J.c.map f).filter fun y=>decide (y.2 =0)).map fun y=>y.1 },0)
def bP(f:Md→Md×Int)(bs:List (Nat×Nat))(Ms:List Md)(i:Nat):List (Nat×Nat):=(((bs.zip Ms).take i).filter fun z=>decide ((f z.2).2 =0)).map fun z=>z.1
section
variable {f:Md→Md×Int} {bs:List (Nat×Nat)} {Ms:List Md} {i:Nat} {x:Nat×Nat} {M:Md}
theorem xk(hx:bs[i]? =some x)(hM:Ms[i]? =some M):(bs.zip Ms)[i]? =some (x,M):=by
  rw[List.getElem?_zip_eq_some];exact⟨hx,hM⟩
theorem qe(hx:bs[i]? =some x)(hM:Ms[i]? =some M)(h:(f M).2 =0):bP f bs Ms (i+1)=bP f bs Ms i++[x]:=by
  unfold bP;rw[List.take_add_one,xk hx hM,List.filter_append,List.map_append];simp[h]
theorem uc(hx:bs[i]? =some x)(hM:Ms[i]? =some M)(h:(f M).2 ≠0):bP f bs Ms (i+1)=bP f bs Ms i:=by
  unfold bP;rw[List.take_add_one,xk hx hM,List.filter_append,List.map_append];simp[h]
theorem ud:(bP f bs Ms i).length ≤i:=by
  unfold bP;rw[List.length_map];exact Nat.le_trans (List.length_filter_le _ _) (by rw[List.length_take];omega)
theorem jF:∀y∈bP f bs Ms i,y∈bs:=fun y hy=>by
  unfold bP at hy
  obtain⟨z,hz,rfl⟩:=List.mem_map.1 hy
  exact(List.of_mem_zip (List.mem_of_mem_take (List.mem_filter.1 hz).1)).1
theorem lq(hl:bs.length =Ms.length):(((bs.zip Ms).filter fun z=>decide ((f z.2).2 =0)).map fun z=>(f z.2).1)=((Ms.map f).filter fun y=>decide (y.2 =0)).map fun y=>y.1 :=by
  have e:Ms=(bs.zip Ms).map Prod.snd :=(List.map_snd_zip (by omega)).symm
  conv=>rhs;rw[e]
  rw[List.map_map,List.filter_map,List.map_map]
  rfl
theorem CA.fit{h:Heap}(c:CA h bs (Ms.map fun M=>(f M).1))(hl:bs.length =Ms.length):CA h (bP f bs Ms bs.length) (((Ms.map f).filter fun y=>decide (y.2 =0)).map fun y=>y.1):=by
  have hz:(bs.zip Ms).take bs.length =bs.zip Ms:=List.take_of_length_le (by rw[List.length_zip];omega)
  have hsub:∀g:Nat×Nat→Nat,((bP f bs Ms bs.length).map g).Sublist (bs.map g):=fun g=>by
    unfold bP;rw[hz]
    refine List.Sublist.map _ ?_
    have:=(List.filter_sublist (p:=fun z:(Nat×Nat)×Md=>decide ((f z.2).2 =0)) (l:=bs.zip Ms)).map Prod.fst
    rwa [List.map_fst_zip (by omega)] at this
  refine⟨?_,fun i x M h1 h2=> ?_,List.Nodup.sublist (hsub _) c.nb,List.Nodup.sublist (hsub _) c.np⟩
  · rw[←lq hl];unfold bP;rw[hz,List.length_map,List.length_map]
  · rw [← lq hl] at h2
    unfold bP at h1
    rw[hz] at h1
    rw[List.getElem?_map] at h1 h2
    cases hq:((bs.zip Ms).filter fun z=>decide ((f z.2).2 =0))[i]? with
    |none=>rw[hq] at h1;cases h1
    | some z =>
      rw[hq] at h1 h2
      simp only[Option.map_some,Option.some.injEq] at h1 h2
      subst h1;subst h2
      obtain⟨j,hj⟩:=List.getElem?_of_mem (List.mem_filter.1 (List.mem_of_getElem? hq)).1
      rw[List.getElem?_zip_eq_some] at hj
      exact c.at_ j z.1 (f z.2).1 hj.1 (by rw[List.getElem?_map,hj.2];rfl)
theorem ue(hl:bs.length =Ms.length)(h:(bP f bs Ms bs.length).length =0):(Ms.map f).filter (fun y=>decide (y.2 =0))=[]:=by
  have e:=List.eq_nil_of_length_eq_zero h
  have hz:(bs.zip Ms).take bs.length =bs.zip Ms:=List.take_of_length_le (by rw[List.length_zip];omega)
  unfold bP at e
  rw[hz,List.map_eq_nil_iff] at e
  have:=lq (f:=f) hl
  rw[e] at this
  exact List.map_eq_nil_iff.1 this.symm
theorem xl(hl:bs.length =Ms.length)(h:(bP f bs Ms bs.length).length ≠0):(Ms.map f).filter (fun y=>decide (y.2 =0))≠[]:=fun e=>by
  apply h
  have hz:(bs.zip Ms).take bs.length =bs.zip Ms:=List.take_of_length_le (by rw[List.length_zip];omega)
  have:=lq (f:=f) hl
  rw[e,List.map_nil,List.map_eq_nil_iff] at this
  unfold bP;rw[hz,this];rfl
end
def ak(kd:Int):Bool×Bool:=if kd=1∨kd=4∨kd=5∨kd=6 then (true,true) else if kd=2∨kd=3∨kd=7∨kd=8∨kd=9∨kd=11∨kd=15∨kd=16 then (true,false) else (false,false)
theorem bS{kd:Int}(h:kd=1∨kd=4∨kd=5∨kd=6):ak kd=(true,true):=by unfold ak;rw[if_pos h]
theorem bO{kd:Int}(h:¬(kd=1∨kd=4∨kd=5∨kd=6))(k:kd=2∨kd=3∨kd=7∨kd=8∨kd=9∨kd=11∨kd=15∨kd=16):ak kd=(true,false):=by unfold ak;rw[if_neg h,if_pos k]
theorem dY{kd:Int}(h:¬(kd=1∨kd=4∨kd=5∨kd=6))(k:¬(kd=2∨kd=3∨kd=7∨kd=8∨kd=9∨kd=11∨kd=15∨kd=16)):ak kd=(false,false):=by unfold ak;rw[if_neg h,if_neg k]
theorem ay.vk{h h':Heap}{b p:Nat}{M:Md}{v:Value}{n sz:Nat}{xs:List Value}(r:ay h v n sz xs)(g:MG b p h h')(m:Mod h b p M):ay h' v n sz xs:=by
  obtain⟨_,_,_,_,_,m⟩:=m;exact r.mg g m.hm m.hp
end Go.aL
namespace Go.aL
open Go Go.ai
theorem Gr.xm{F G:Nat→Prop}{a b c:Heap}(k:Gr F a b)(g:Gr G b c)(hG:∀i,G i→F i∨a.size ≤i):Gr F a c:=
  ⟨Nat.le_trans k.1 g.1,fun i hi hn=>(g.2 i (Nat.lt_of_lt_of_le hi k.1) (fun hg=>by rcases hG i hg with h|h;exact hn h;omega)).trans (k.2 i hi hn)⟩
theorem Gr.bX{F:Nat→Prop}{a b c:Heap}{o:Option Nat}(k:Gr F a b)(g:Grew o b c)(ho:∀i,o=some i→F i∨a.size ≤i):Gr F a c:=
  ⟨Nat.le_trans k.1 g.1,fun i hi hn=>(g.2 i (Nat.lt_of_lt_of_le hi k.1) (fun e=>by rcases ho i e.symm with h|h;exact hn h;omega)).trans (k.2 i hi hn)⟩
theorem Gr.start(F:Nat→Prop)(h:Heap):Gr F h h:=⟨Nat.le_refl _,fun _ _ _=>rfl⟩
theorem Mod.k1{h:Heap}{b p:Nat}{M:Md}(m:Mod h b p M):0<b∧0<p:=by obtain⟨_,_,_,_,_,m⟩:=m;exact⟨m.kb,m.kp⟩
theorem Mod.zO{h:Heap}{b p j:Nat}{M:Md}{cs:Array Value}{E:TypeId}{fr:Nat×Nat}(m:Mod h b p M)(hj:h[j]? =some (.cells cs E fr))(hE:E≠83):j≠b∧j≠p:=by
  obtain⟨_,_,_,_,_,m⟩:=m
  refine⟨?_, ?_⟩
  · rintro rfl;rw[m.hm] at hj;cases hj;exact hE rfl
  · rintro rfl;rw[m.hp] at hj;cases hj
def nh(f:Md→Md×Int)(Ms:List Md)(k:Nat):Int:=if k=0 then 0 else hdF f Ms
theorem jG{f:Md→Md×Int}{Ms:List Md}{k:Nat}{M:Md}(hk:k=0)(hM:Ms[k]? =some M):nh f Ms (k+1)=(f M).2 :=by
  subst hk
  cases Ms with
  |nil=>simp at hM
  |cons N L=>simp at hM;subst hM;rfl
theorem jH(f:Md→Md×Int)(Ms:List Md){k:Nat}(hk:k≠0):nh f Ms (k+1)=nh f Ms k:=by
  obtain⟨j,rfl⟩:∃j,k=j+1:=⟨k - 1,by omega⟩
  rfl
theorem uf{f:Md→Md×Int}{Ms:List Md}{k:Nat}(hk:k=Ms.length):nh f Ms k=hdF f Ms:=by
  subst hk;cases Ms<;>rfl
theorem jI{α:Type}(f:α→α)(l:List α){k:Nat}(hk:k=l.length):(l.take k).map f++l.drop k=l.map f:=by subst hk;simp
theorem ug{J:Jd}{f:Md→Md×Int}(h:(J.c.map f).filter (fun y=>decide (y.2 =0))=[]):bz J f=({J with c:=J.c.map fun M=>(f M).1 },hdF f J.c):=by unfold bz;rw[if_pos h]
theorem mi{J:Jd}{f:Md→Md×Int}(h:(J.c.map f).filter (fun y=>decide (y.2 =0))≠[]):bz J f=({J with c:=((J.c.map f).filter fun y=>decide (y.2 =0)).map fun y=>y.1 },0):=by unfold bz;rw[if_neg h]
end Go.aL
namespace Go.Proofs.YtegkejcglfgpmaaGreatDoor
open Go Go.ai Go.aL
theorem qf{M:Md}{K K':List Rec}(E:dQ M K)(F:dQ M K'):K.length =K'.length :=by
  have hp:(K.map fun r=>r.b.id).Perm (K'.map fun r=>r.b.id):=(List.perm_ext_iff_of_nodup E.nd F.nd).2 fun s=>by
    simp only[List.mem_map]
    constructor
    · rintro⟨r,hr,rfl⟩;obtain⟨o,h1,_⟩:=E.at_ r hr;obtain⟨r',k1,k2⟩:=F.al _ o h1;exact⟨r',k1,k2⟩
    · rintro⟨r,hr,rfl⟩;obtain⟨o,h1,_⟩:=F.at_ r hr;obtain⟨r',k1,k2⟩:=E.al _ o h1;exact⟨r',k1,k2⟩
  simpa using hp.length_eq
theorem zP{h:Heap}{b p:Nat}{M:Md}(m:Mod h b p M):(iW M).length ≤M.E.length ∧(eZ M).length ≤M.E.length :=by
  obtain⟨L,ck,ea,ec,es,md⟩:=m
  obtain⟨g,hg⟩:=md.choose
  have hen:=md.enum hg (List.Perm.refl L)
  have hK:(L.map (aJ g)).length =M.E.length :=by rw[List.length_map,md.ln]
  constructor
  · rw[ll hen];unfold gA;rw[List.length_mergeSort, ←hK];exact iy _
  · unfold eZ
    split
    · rename_i hh
      obtain⟨K,S,E',h',s',e⟩:=Classical.choose_spec hh
      rw[e, ←hK,qf hen E']
      unfold ids;rw[List.length_map,h'.length_eq];exact List.length_filter_le _ _
    · simp
theorem jJ{h:Heap}{b p:Nat}{M:Md}(m:Mod h b p M)(kd n:Int)(s:ByteArray)(l:List UInt8):(step M kd n s l).2.i.length ≤M.E.length ∧(step M kd n s l).2.p.length ≤M.E.length :=by
  have hb:=zP m
  have z0:(0:Nat)≤M.E.length :=Nat.zero_le _
  unfold step
  split
  · exact⟨z0,z0⟩
  split
  · exact⟨z0,z0⟩
  split
  · show (dm M kd s).i.length ≤ _ ∧ (dm M kd s).p.length ≤ _
    unfold dm
    split
    · exact⟨z0,z0⟩
    split
    · exact⟨z0,z0⟩
    split
    · exact⟨z0,z0⟩
    split
    · refine ⟨z0, ?_⟩
      have:=nG (cP M.E) (by assumption:Ob).b.idx
      exact Nat.le_trans this (by unfold cP;rw[List.length_map];exact Nat.le_refl _)
    split
    · exact⟨z0,z0⟩
    split<;>exact⟨z0,z0⟩
  split
  · exact⟨hb.1,z0⟩
  split
  · exact⟨hb.2,z0⟩
  split
  · exact⟨z0,z0⟩
  split
  · exact⟨z0,z0⟩
  split<;>exact⟨z0,z0⟩
theorem oP(M:Md)(kd n:Int)(s:ByteArray)(l:List UInt8):(step M kd n s l).1.E.length ≤M.E.length +1:=by
  have h1:(du M s l).1.E.length ≤M.E.length +1:=by
    unfold du
    split
    · exact Nat.le_succ _
    split
    · exact Nat.le_succ _
    split
    · exact Nat.le_succ _
    · simp
  have h2:(fL M kd n s).1.E.length ≤M.E.length +1:=by
    unfold fL
    split
    · exact Nat.le_succ _
    split
    · exact Nat.le_succ _
    split
    · exact Nat.le_succ _
    split<;>exact Nat.le_succ _
  unfold step
  split
  · exact h1
  split
  · exact h2
  split
  · show M.E.length ≤_;omega
  split
  · show M.E.length ≤_;omega
  split
  · show M.E.length ≤_;omega
  split
  · show M.E.length ≤_;omega
  split
  · show M.E.length ≤_;omega
  split<;>(show M.E.length ≤_;omega)
def dz(kd:Int)(W X:An):An:=if (kd=11∧0≤X.k ∧X.k ≤6)∨(kd=15∧W.c =0∧0≤X.k ∧X.k ≤8) then {W with k:=X.k } else W
theorem jK{kd:Int}{W X:An}(h:(kd=11∧0≤X.k ∧X.k ≤6)∨(kd=15∧W.c =0∧0≤X.k ∧X.k ≤8)):dz kd W X={W with k:=X.k }:=by unfold dz;rw[if_pos h]
theorem e_{kd:Int}{W X:An}(h:¬((kd=11∧0≤X.k ∧X.k ≤6)∨(kd=15∧W.c =0∧0≤X.k ∧X.k ≤8))):dz kd W X=W:=by unfold dz;rw[if_neg h]
noncomputable def bA(kd n:Int)(s:ByteArray)(l:List UInt8)(X:An)(M:Md):Md×Int:=((step M kd n s l).1,au (dz kd (step M kd n s l).2 X) X)
noncomputable def bh(kd n:Int)(s:ByteArray)(l:List UInt8)(X:An)(M:Md):Md×Int:=(M,if (step M kd n s l).2.c =0∧au (cm 3) X=0 then 0 else au (step M kd n s l).2 X)
theorem jL{kd n:Int}{s:ByteArray}{l:List UInt8}{X:An}{M:Md}(h:(step M kd n s l).2.c =0)(k:au (cm 3) X=0):bh kd n s l X M=(M,0):=by unfold bh;rw[if_pos ⟨h,k⟩]
theorem iC{kd n:Int}{s:ByteArray}{l:List UInt8}{X:An}{M:Md}(h:¬((step M kd n s l).2.c =0∧au (cm 3) X=0)):bh kd n s l X M=(M,au (step M kd n s l).2 X):=by unfold bh;rw[if_neg h]
end Go.Proofs.YtegkejcglfgpmaaGreatDoor
namespace Go.aL
open Go Go.ai
theorem CA.CN{h:Heap}{bs:List (Nat×Nat)}{Ms:List Md}{j:Nat}{cs:Array Value}{E:TypeId}{fr:Nat×Nat}(c:CA h bs Ms)(hj:h[j]? =some (.cells cs E fr))(hE:E≠83):∀x∈bs,j≠x.1 ∧j≠x.2 :=fun x hx=>by
  obtain⟨i,hi⟩:=List.getElem?_of_mem hx
  have hl:=(List.getElem?_eq_some_iff.1 hi).1
  rw[c.len] at hl
  exact(c.at_ i x _ hi (List.getElem?_eq_getElem hl)).zO hj hE
theorem CA.oQ{h:Heap}{bs:List (Nat×Nat)}{Ms:List Md}{j:Nat}{cs:Array Value}{E:TypeId}{fr:Nat×Nat}(c:CA h bs Ms)(hj:h[j]? =some (.cells cs E fr))(hE:lj E=false)(hP:E≠55):∀k,JF j bs k→aY h k∧zN h k:=fun k hk=>by
  rcases hk with rfl|⟨x,hx,e⟩
  · exact⟨aY.cells hj hE,fun cs fr e=>by rw[hj] at e;cases e;exact hP rfl⟩
  · obtain ⟨i, hi⟩ := List.getElem?_of_mem hx
    have hl:=(List.getElem?_eq_some_iff.1 hi).1
    rw[c.len] at hl
    obtain⟨_,_,_,_,_,m⟩:=c.at_ i x _ hi (List.getElem?_eq_getElem hl)
    rcases e with rfl|rfl
    · exact⟨aY.cells m.hm (by decide),fun cs fr e=>by rw[m.hm] at e;cases e⟩
    · exact⟨aY.map m.hp,fun cs fr e=>by rw[m.hp] at e;cases e⟩
theorem CA.qg{h h':Heap}{bs:List (Nat×Nat)}{Ms:List Md}{o:Option Nat}{v:Value}{E:TypeId}{n sz:Nat}{xs:List Value}(c:CA h bs Ms)(g:Grew o h h')(w:Own h v E n sz xs)(ho:aZ v=o)(hE:lj E=false)(hM:E≠83):CA h' bs Ms:=by
  subst ho
  rcases w.2 with⟨rfl,_⟩|⟨k,off,cap,l,rfl,m,_⟩
  · exact c.ext g
  · refine c.fr (F := fun i => i = k) ⟨g.1, fun i hi hn => g.2 i hi (fun e => hn (Option.some.inj e))⟩ (by rintro i rfl; exact aY.cells m hE) fun x hx => ?_
    have:=c.CN m hM x hx
    exact⟨fun e=>this.1 e.symm,fun e=>this.2 e.symm⟩
end Go.aL
namespace Go.aL
open Go Go.ai
theorem Mod.eJ{h h':Heap}{b p:Nat}{M:Md}{o:Option Nat}{v:Value}{E:TypeId}{n sz:Nat}{xs:List Value}(m:Mod h b p M)(g:Grew o h h')(w:Own h v E n sz xs)(ho:aZ v=o)(hE:lj E=false)(hM:E≠83):Mod h' b p M:=by
  subst ho
  rcases w.2 with⟨rfl,_⟩|⟨k,off,cap,l,rfl,q,_⟩
  · exact m.ext g
  · have := m.zO q hM
    exact m.fr (F:=fun i=>i=k) ⟨g.1,fun i hi hn=>g.2 i hi (fun e=>hn (Option.some.inj e))⟩ (by rintro i rfl;exact aY.cells q hE) (fun e=>this.1 e.symm) (fun e=>this.2 e.symm)
theorem CA.one{h:Heap}{x:Nat×Nat}{M:Md}(m:Mod h x.1 x.2 M):CA h [x] [M]:=by
  refine⟨rfl,fun i z K e1 e2=> ?_,by simp,by simp⟩
  match i,e1,e2 with
  |0,e1,e2=>cases e1;cases e2;exact m
  |_+1,e1,_=>simp at e1
theorem Mod.zQ{h:Heap}{b p:Nat}{M:Md}{ad:Option Addr}{n cap:Nat}{E:TypeId}{m sz:Nat}{xs:List Value}(m':Mod h b p M)(w:Own h (.slice ad n cap) E m sz xs)(hM:E≠83):∀k,ad.map (fun(x:Addr)=>x.block)=some k→¬(k=b∨k=p):=fun k e=>by
  rcases w.2 with⟨e2,_⟩|⟨g,off,cap',l,e2,q,_⟩
  · cases e2;cases e
  · cases e2
    simp only[Option.map_some,Option.some.injEq] at e
    subst e
    have:=m'.zO q hM
    rintro(e|e)
    · exact this.1 e
    · exact this.2 e
end Go.aL
namespace Go.aL
open Go Go.ai
theorem JA.ext{h h':Heap}{jb:Nat}{bs:List (Nat×Nat)}{J:Jd}{ca:Option Addr}{cc:Nat}(a:JA h jb bs J ca cc)(g:Ext h h'):JA h' jb bs J ca cc:=⟨g.blk a.hj,a.row.ext g,a.cs.ext g⟩
theorem JA.lt{h:Heap}{jb:Nat}{bs:List (Nat×Nat)}{J:Jd}{ca:Option Addr}{cc:Nat}(a:JA h jb bs J ca cc):jb<h.size ∧∀x∈bs,x.1 <h.size ∧x.2 <h.size :=by
  refine⟨aj a.hj,fun x hx=> ?_⟩
  obtain⟨i,hi⟩:=List.getElem?_of_mem hx
  have hl:=(List.getElem?_eq_some_iff.1 hi).1
  rw[a.cs.len] at hl
  exact(a.cs.at_ i x _ hi (List.getElem?_eq_getElem hl)).kb
theorem JA.turn{h h':Heap}{jb:Nat}{bs:List (Nat×Nat)}{J J':Jd}{ca:Option Addr}{cc:Nat}(a:JA h jb bs J ca cc)(g:Gr (fun k=>k=jb) h h')(hj:h'[jb]? =some (.cells #[.slice ca bs.length cc, .bool J'.off, .bool J'.aC, .bool J'.qd, .bool J'.gave] 77))(hc:J'.c =J.c):JA h' jb bs J' ca cc:=by
  refine⟨hj,a.row.fr g (fun i e cs fr e2=>by rw[e,a.hj] at e2;cases e2), ?_⟩
  rw[hc]
  exact a.cs.fr g (by rintro i rfl;exact aY.cells a.hj (by decide)) fun x hx=>by
    have:=a.cs.CN a.hj (by decide) x hx
    exact⟨fun e=>this.1 e.symm,fun e=>this.2 e.symm⟩
theorem ay.jf{h h':Heap}{jb:Nat}{v:Value}{n sz:Nat}{xs:List Value}{cs:Array Value}{E:TypeId}{fr:Nat×Nat}(r:ay h v n sz xs)(g:Gr (fun k=>k=jb) h h')(hj:h[jb]? =some (.cells cs E fr))(hE:lj E=false):ay h' v n sz xs:=r.fr g (by rintro i rfl;exact aY.cells hj hE)
theorem Gr.vl{h h':Heap}{jb:Nat}(bs:List (Nat×Nat))(g:Gr (fun k=>k=jb) h h'):Gr (JF jb bs) h h':=⟨g.1,fun k hk hn=>g.2 k hk (fun e=>hn (.inl e))⟩
end Go.aL
namespace Go.aL
open Go Go.ai
def gB(F:Nat→Prop)(h:Heap)(v:Value)(n sz:Nat)(xs:List Value):Prop:=Row h v n sz xs∧(n=0∨∀k,aZ v=some k→k<h.size ∧¬F k)
section
variable {F:Nat→Prop} {h h':Heap} {v:Value} {n sz:Nat} {xs:List Value}
theorem gB.gr(r:gB F h v n sz xs)(g:Gr F h h'):Row h' v n sz xs:=by
  rcases r.2 with h0|hk
  · exact r.1.zero h0
  refine⟨r.1.1,r.1.2.imp id ?_⟩
  rintro⟨a,cap,rfl,hc,hx⟩
  obtain⟨h1,h2⟩:=hk a.block rfl
  exact⟨a,cap,rfl,hc,fun j u hu=>by rw[dP (h:=h) (h':=h') (p:=a.add j) (by rw[add_block,g.2 _ h1 h2])];exact hx j u hu⟩
theorem gB.ext(r:gB F h v n sz xs)(g:Ext h h'):gB F h' v n sz xs:=⟨r.1.ext g,r.2.imp id fun q k e=>⟨Nat.lt_of_lt_of_le (q k e).1 g.1,(q k e).2⟩⟩
theorem gB.jf{jb:Nat}{bs:List (Nat×Nat)}(r:gB (JF jb bs) h v n sz xs)(g:Gr (fun k=>k=jb) h h'):gB (JF jb bs) h' v n sz xs:=⟨r.gr (g.vl bs),r.2.imp id fun q k e=>⟨Nat.lt_of_lt_of_le (q k e).1 g.1,(q k e).2⟩⟩
end
end Go.aL
end
section
namespace Go.Proofs.YtegkejcglfgpmaaGreatDoor
open Go Go.ai Go.aL
open Classical in
/-- what a change of one object comes to -/
noncomputable def Fv(x:Option Ob)(kd n t:Int)(s:ByteArray):Option Ob×Int:=
  if aK s=false then (none,210) else if kd=4∧(n<0∨1099511627776<n) then (none,1) else match x with
    |none=>(none,211)
    |some o=>if (eR o kd n t).2 =0 then (some (eR o kd n t).1,0) else (none,(eR o kd n t).2)
noncomputable def Fw(M:Md)(s:ByteArray):Option Ob→Md
  |none=>M
  |some o=>⟨upd M.f s o,M.E,M.t⟩
/-! ### many operations, one after the other -/
structure dJ where
  kd:Int
  s:ByteArray
  l:List UInt8
  oa:Option Addr
  oc:Nat
  n:Int
  ka:Option Addr
  kn:Nat
  kc:Nat
@[reducible] def Ce(o:dJ):List Value:=[.int .i64 o.kd, .string o.s, .slice o.oa o.l.length o.oc, .int .i64 o.n, .slice o.ka o.kn o.kc]
def dX:dJ:=⟨0,ByteArray.empty,[],none,0,0,none,0,0⟩
@[reducible] def dZ(L:List dJ):List Value:=L.flatMap Ce
theorem lr(o:dJ):(Ce o).length =5:=rfl
def vm(h:Heap)(o:dJ):Prop:=Row h (.slice o.oa o.l.length o.oc) o.l.length 1 (o.l.map bv)∧o.s.size ≤9223372036854775807
theorem vm.ext{h h':Heap}{o:dJ}(a:vm h o)(g:Ext h h'):vm h' o:=⟨a.1.ext g,a.2⟩
noncomputable def aG(M:Md)(o:dJ):Md×An:=step M o.kd o.n o.s o.l
noncomputable def run(L:List dJ):Md→Md:=fun M=>L.foldl (fun M o=>(aG M o).1) M
theorem qh{L:List dJ}{i:Nat}{o:dJ}{M:Md}(h:L[i]? =some o):run (L.take (i+1)) M=(aG (run (L.take i) M) o).1 :=by
  unfold run
  rw[List.take_add_one,h,List.foldl_append]
  rfl
def M0:Md:=⟨fun _=>none,[],0⟩
theorem jM{L:List dJ}{i:Nat}{P:dJ→Prop}(h:∀o∈L,P o)(hi:i<L.length):P (L.getD i dX):=by
  rw[List.getD_eq_getElem?_getD,List.getElem?_eq_getElem hi];exact h _ (List.getElem_mem hi)
theorem getD_at{L:List dJ}{i:Nat}(hi:i<L.length):L[i]? =some (L.getD i dX):=by
  rw[List.getD_eq_getElem?_getD,List.getElem?_eq_getElem hi];rfl
end Go.Proofs.YtegkejcglfgpmaaGreatDoor
end
section
namespace Go.Proofs.YtegkejcglfgpmaaGreatDoor
open Go.ChangeShapes Go.WideShapes Go.ChangeAt Go.RowKit
section
variable {H:Type} {enc:TypeId×Value→H}
def HA(h:ai.Heap)(va:Option Addr)(vc:Nat)(L:List aL.Hs):Prop:=aL.HR h va vc L.length L∧∀k,va.map (fun(x:Addr)=>x.block)=some k→k<h.size
end
end Go.Proofs.YtegkejcglfgpmaaGreatDoor
namespace Go.Proofs.YtegkejcglfgpmaaGreatDoor
open Go.ChangeShapes Go.WideShapes Go.ChangeAt Go.RowKit
section
variable {H:Type} {enc:TypeId×Value→H}
def fieldsOf(P:Program)(t:TypeId):Option (List (TypeId×Nat)):=
  match P.underlying t with
  |some (.struct fs)=>some (fs.toList.map fun f=>(f.type,f.offset))
  |_=>none
theorem kL{P:Program}{W:World}{t:TypeId}{fuel:Nat}{cs:List Value}{x:DataW H×List MemPlace}{l:List (TypeId×Nat)}(hf:fieldsOf P t=some l)(h:DataW.trod enc P W 0 (fun _=>true) true fuel t cs=some x):
    ∃(xs:List (DataW H×List MemPlace)) (n:Nat),cs.length =P.cellsOf t∧x.1 = .agg (xs.map (·.1))∧∀(i:Nat) (p:TypeId×Nat),l[i]? =some p→∃y,xs[i]? =some y∧DataW.trod enc P W 0 (fun _=>true) true n p.1 ((cs.drop p.2).take (P.cellsOf p.1))=some y:=by
  unfold fieldsOf at hf
  cases hu:P.underlying t with
  |none=>simp[hu] at hf
  | some d =>
    cases d<;>simp only[hu] at hf<;>first| (cases hf;done)|skip
    rename_i fs
    simp only[Option.some.injEq] at hf
    obtain⟨xs,n,rfl,rfl,hl,hxl,hel⟩:=DataW.trod_struct hu h
    refine⟨xs,n,hl,rfl,fun i p hp=> ?_⟩
    rw[←hf,List.getElem?_map,Option.map_eq_some_iff] at hp
    obtain⟨f,h1,rfl⟩:=hp
    have h2:=hel i f (by simpa using h1)
    have hi:i<xs.length :=by
      rw[hxl]
      apply Nat.lt_of_not_le;intro hh
      rw[List.getElem?_eq_none (by simpa using hh)] at h1;cases h1
    rw[List.getElem?_eq_getElem hi] at h2⊢
    exact⟨_,rfl,h2⟩
theorem vn{P:Program}{t:TypeId}{l:List (TypeId×Nat)}(hf:fieldsOf P t=some l):∃fs,P.underlying t=some (.struct fs):=by
  unfold fieldsOf at hf
  cases hu:P.underlying t with
  |none=>simp[hu] at hf
  | some d =>
    cases d<;>simp only[hu] at hf<;>first| (cases hf;done)|skip
    exact⟨_,rfl⟩
theorem cut(l:List Value)(a b:Nat):l.drop a=(l.drop a).take b++l.drop (a+b):=by
  rw[←List.drop_drop,List.take_append_drop]
theorem xn{l:List (DataW H×List MemPlace)}{i:Nat}{y:DataW H×List MemPlace}(h:l[i]? =some y):Rows.uptoBulk y.1 ≤Rows.uptoBulk (DataW.agg (l.map (·.1))):=by
  have:Rows.uptoBulk y.1 ≤Rows.uptoBulkAll (l.map (·.1)):=by
    induction l generalizing i with
    |nil=>simp at h
    | cons x l ih =>
      simp only[List.map_cons,Rows.uptoBulkAll]
      cases i with
      |zero=>simp only[List.getElem?_cons_zero,Option.some.injEq] at h;subst h;omega
      |succ i=>have:=ih (i:=i) (by simpa using h);omega
  simp only[Rows.uptoBulk];omega
theorem gX{n:Int}(hw:(Lit.int .i64 n).wf =true): -9223372036854775808≤n∧n≤9223372036854775807:=by
  simp only[Lit.wf,Bool.and_eq_true,decide_eq_true_eq] at hw
  simpa[IntKind.min,IntKind.max,IntKind.signed,IntKind.bits] using hw
end
end Go.Proofs.YtegkejcglfgpmaaGreatDoor
namespace Go.Proofs.YtegkejcglfgpmaaGreatDoor
open Go.ChangeShapes Go.WideShapes Go.ChangeAt Go.RowKit
section
variable {H:Type} {enc:TypeId×Value→H}
theorem rX{α:Type}{f:α→List Value}{k:Nat}(d0:α)(hfl:∀x,(f x).length =k){P:Program}{W:World}{t q:TypeId}{fuel:Nat}{cs:List Value}{x:DataW H×List MemPlace}(ht:P.underlying t=some (.slice q))(hc:P.cellsOf q=k)(hk:0<k)(Q:α→DataW H→Prop)
    (hq:∀(n:Nat) (cs':List Value) (y:DataW H×List MemPlace),DataW.trod enc P W 0 (fun _=>true) true n q cs'=some y→∃z,cs'=f z∧Q z y.1)
    (h:DataW.trod enc P W 0 (fun _=>true) true fuel t cs=some x):∃va vc,∃L:List α,cs=[.slice va L.length vc]∧ai.Row W.heap (.slice va L.length vc) L.length k (L.flatMap f)∧L.length +1≤Rows.uptoBulk x.1 ∧
      ∃ds:List (DataW H),ds.length =L.length ∧Rows.uptoBulkAll ds≤Rows.uptoBulk x.1 ∧∀i,i<L.length →∃dd,ds[i]? =some dd∧Q (L.getD i d0) dd:=by
  rcases Deep.open_slice ht h with⟨rfl,rfl⟩|⟨a,len,cap,m,n,D,Pl,rfl,_,hle,_,hm,rfl,hel⟩
  · exact⟨none,0,[],rfl,⟨by simp, .inl ⟨rfl,rfl⟩⟩,by simp[Rows.uptoBulk],[],rfl,by simp[Rows.uptoBulkAll],fun i hi=>by simp at hi⟩
  · have hm' : m = cap := hm
    have _inst:Inhabited α:=⟨d0⟩
    obtain⟨g,hG⟩:=Deep.choose_lt (n:=len) (p:=fun i (y:α)=>Q y (D i)∧∀j u,(f y)[j]? =some u→ai.hcell W.heap (a.add (i*k+j))=some u) (fun i hi=>by
      obtain⟨cs',h1,h2⟩:=hel i (by omega)
      obtain⟨y,rfl,hy⟩:=hq _ _ _ h2
      rw[hc] at h1
      refine⟨y,hy,fun j u hu=> ?_⟩
      have hj:j<k:=by
        apply Nat.lt_of_not_le;intro hh
        rw[List.getElem?_eq_none (by rw[hfl];exact hh)] at hu;cases hu
      have h3:=(World.cells?_some h1).2.2 j hj
      rw[hu,ai.eD rfl,ai.add_add] at h3
      exact h3)
    have hl:((List.range len).map g).length =len:=by simp
    refine⟨some a,cap,(List.range len).map g,by rw[hl],⟨aL.fb hfl _, .inr ⟨a,cap,rfl,by rw[hl];exact hle,fun j u hu=> ?_⟩⟩, ?_,(List.range len).map D,by simp, ?_,fun i hi=> ?_⟩
    · have hj : j < len * k := by
        apply Nat.lt_of_not_le;intro hh
        rw[List.getElem?_eq_none (by rw[aL.fb hfl,hl];omega)] at hu;cases hu
      have hi:j/k<len:=(Nat.div_lt_iff_lt_mul hk).2 hj
      have hjk:j/k*k+j%k=j:=by rw[Nat.mul_comm];exact Nat.div_add_mod j k
      have hd:(((List.range len).map g).drop (j/k)).flatMap f=f (g (j/k))++(((List.range len).map g).drop (j/k+1)).flatMap f:=by
        rw[List.drop_eq_getElem_cons (by rw[hl];exact hi),List.flatMap_cons];simp
      have hu2:(f (g (j/k)))[j%k]? =some u:=by
        have h4:((((List.range len).map g).drop (j/k)).flatMap f)[j%k]? =some u:=by
          rw[←aL.jt hfl,List.getElem?_drop,hjk];exact hu
        rw[hd,List.getElem?_append_left (by rw[hfl];exact Nat.mod_lt _ hk)] at h4
        exact h4
      have:=(hG _ hi).2 _ _ hu2
      rw[hjk] at this
      exact this
    · rw [hl]
      have:=tp.pw ((List.range len).map D) ((List.range (m - len)).map fun j=>D (len+j))
      rw[List.length_map,List.length_range] at this
      refine Nat.le_trans ?_ this
      omega
    · simp only[Rows.uptoBulk];omega
    · rw [hl] at hi
      exact⟨D i,by simp[hi],by simpa[List.getD,hi] using(hG i hi).1⟩
theorem vo{ds:List (DataW H)}{i:Nat}{y:DataW H}(h:ds[i]? =some y):Rows.uptoBulk y≤Rows.uptoBulkAll ds:=by
  induction ds generalizing i with
  |nil=>simp at h
  | cons x l ih =>
    simp only[Rows.uptoBulkAll]
    cases i with
    |zero=>simp only[List.getElem?_cons_zero,Option.some.injEq] at h;subst h;omega
    |succ i=>have:=ih (i:=i) (by simpa using h);omega
def BE(P:Program)(t ti ts tb te tk:TypeId):Prop:=fieldsOf P t=some [(ti,0),(ts,1),(tb,2),(ti,3),(tk,4)]∧P.cellsOf t=5∧P.underlying ti=some (.int .i64)∧P.cellsOf ti=1∧P.underlying ts=some .string ∧P.cellsOf ts=1∧P.underlying tb=some (.slice te)∧P.cellsOf tb=1∧P.underlying te=some (.int .u8)∧P.cellsOf te=1∧P.underlying tk=some (.slice ti)∧P.cellsOf tk=1
theorem xo{P:Program}{W:World}{t ti ts tb te tk:TypeId}{fuel:Nat}{cs:List Value}{x:DataW H×List MemPlace}(hO:BE P t ti ts tb te tk)(h:DataW.trod enc P W 0 (fun _=>true) true fuel t cs=some x):
    ∃o:dJ,cs=Ce o∧vm W.heap o∧o.l.length +1≤Rows.uptoBulk x.1 ∧ -9223372036854775808≤o.kd ∧o.kd ≤9223372036854775807∧(o.l.length =0∨∀k,ai.aZ (.slice o.oa o.l.length o.oc)=some k→k<W.heap.size):=by
  obtain⟨hf,hct,hi,hci,hs,hcs,hb,hcb,he,hce,hk,hck⟩:=hO
  obtain⟨xs,n0,hl,hd,hel⟩:=kL hf h
  obtain⟨y0,_,h0⟩:=hel 0 _ rfl
  obtain⟨y1,_,h1⟩:=hel 1 _ rfl
  obtain⟨y2,g2,h2⟩:=hel 2 _ rfl
  obtain⟨y3,_,h3⟩:=hel 3 _ rfl
  obtain⟨y4,_,h4⟩:=hel 4 _ rfl
  obtain⟨kd,e0,_,hkd⟩:=DataW.trod_int hi h0
  obtain⟨s,e1,_,hsz⟩:=DataW.trod_string hs h1
  obtain⟨⟨oa,oc,l⟩,e2,hr,hbl⟩:=open_bytes hb he hce h2
  obtain⟨n,e3,_,_⟩:=DataW.trod_int hi h3
  obtain⟨ka,kn,kc,e4⟩:∃ka kn kc,(cs.drop 4).take (P.cellsOf tk)=[.slice ka kn kc]:=by
    rcases open_ints hk hi hci h4 with⟨e,_⟩|⟨a,len,cap,zs,e,_⟩
    · exact⟨_,_,_,e⟩
    · exact⟨_,_,_,e⟩
  refine⟨⟨kd,s,l,oa,oc,n,ka,kn,kc⟩, ?_,⟨hr.1, ?_⟩, ?_,(gX hkd).1,(gX hkd).2,hr.2.imp (fun e=>congrArg List.length e) id⟩
  · rw [hct] at hl
    rw[hci] at e0 e3
    rw[hcs] at e1
    rw[hcb] at e2
    rw[hck] at e4
    dsimp only at e0 e1 e2 e3 e4
    have c0:=cut cs 0 1
    have c1:=cut cs 1 1
    have c2:=cut cs 2 1
    have c3:=cut cs 3 1
    have c4:=cut cs 4 1
    rw[List.drop_of_length_le (l:=cs) (i:=4+1) (by omega),List.append_nil,e4] at c4
    rw[e3,c4] at c3
    rw[e2,c3] at c2
    rw[e1,c2] at c1
    rw[e0,c1,List.drop_zero] at c0
    rw[c0];rfl
  · have := hsz
    show s.size ≤_
    first|exact Nat.le_trans this (by decide)| (simp only[maxLen] at this;omega)
  · have := xn g2
    rw[hd]
    simp only at this hbl⊢
    omega
end
end Go.Proofs.YtegkejcglfgpmaaGreatDoor
end
section
namespace Go.aL
open Go Go.ai
/-! ### the document's model, as the memory holds it -/
/-- a row that lies in a block of this type -/
def jN(E:TypeId)(h:Heap)(v:Value)(n sz:Nat)(xs:List Value):Prop:=Row h v n sz xs∧(n=0∨∃k cs fr,aZ v=some k∧h[k]? =some (.cells cs E fr))
def oR(E:TypeId)(h:Heap)(k:Nat):Prop:=∀cs fr,h[k]? ≠some (.cells cs E fr)
section
variable {E:TypeId} {h h':Heap} {v:Value} {n sz:Nat} {xs:List Value} {F:Nat→Prop}
theorem jN.fr(r:jN E h v n sz xs)(g:Gr F h h')(hF:∀k,F k→oR E h k):jN E h' v n sz xs:=by
  rcases r.2 with h0|⟨k,ds,fr',e,m⟩
  · exact⟨r.1.zero h0, .inl h0⟩
  · have nk : ¬ F k := fun hk => hF k hk _ _ m
    have m':h'[k]? =some (.cells ds E fr'):=by rw[g.2 k (aj m) nk];exact m
    refine⟨⟨r.1.1,r.1.2.imp id ?_⟩, .inr ⟨k,ds,fr',e,m'⟩⟩
    rintro⟨a,cap,rfl,hc,hx⟩
    simp only[aZ,Option.some.injEq] at e
    subst e
    refine⟨a,cap,rfl,hc,fun j u hu=> ?_⟩
    rw[dP (h:=h) (h':=h') (p:=a.add j) (by rw[add_block,m',m])]
    exact hx j u hu
theorem jN.of(o:Own h v E n sz xs):jN E h v n sz xs:=by
  refine⟨o.row, ?_⟩
  rcases o.2 with⟨rfl,h0⟩|⟨g,off,cap,l,rfl,m,_⟩
  · exact .inl h0
  · exact .inr ⟨g,l,(0,0),rfl,m⟩
theorem jN.nil(E:TypeId)(h:Heap)(sz:Nat):jN E h (.slice none 0 0) 0 sz []:=⟨Row.nil h sz, .inl rfl⟩
theorem oR.cells{k:Nat}{cs:Array Value}{E2:TypeId}{fr:Nat×Nat}(m:h[k]? =some (.cells cs E2 fr))(hE:E2≠E):oR E h k:=fun cs' fr' e=>by rw[m] at e;cases e;exact hE rfl
end
structure RO where
  o:Ob
  ca:Option Addr
  cc:Nat
  ba:Option Addr
  bc:Nat
@[reducible] def rY(x:RO):List Value:=dn x.o.b x.o.e x.o.ho x.o.go (.slice x.ca 0 x.cc) (.slice x.ba x.o.dt.length x.bc)
def D4:RO:=⟨⟨dF,0,false,false,[]⟩,none,0,none,0⟩
@[reducible] def bB(T:List RO):List Value:=T.flatMap rY
theorem jO(x:RO):(rY x).length =40:=rfl
theorem kC(T:List RO):(bB T).length =T.length *40:=fb jO T
theorem et(T:List RO):∀u∈bB T,u.oneCell' =true:=im (fun p u hu=>by
  rcases List.mem_append.1 hu with h|h
  · exact dU ⟨p.o.b,p.o.e,p.o.ho,p.o.go,p.ca,0,p.cc⟩ u h
  · rw[List.mem_singleton.1 h];rfl) T
/-! ### strings in order -/
def gl(s t:ByteArray):Prop:=Lib.compareBytes s.data.toList t.data.toList <0
theorem ba_eq{s t:ByteArray}(h:s.data.toList =t.data.toList):s=t:=by
  cases s;cases t
  simp only[ByteArray.mk.injEq]
  rename_i a b
  rw[←Array.toArray_toList (xs:=a), ←Array.toArray_toList (xs:=b)]
  exact congrArg List.toArray h
theorem uh(s t:ByteArray):gl s t∨s=t∨gl t s:=by
  unfold gl
  rcases Int.lt_trichotomy (Lib.compareBytes s.data.toList t.data.toList) 0 with h|h|h
  · exact .inl h
  · exact .inr (.inl (ba_eq (pK h)))
  · have:=dV s.data.toList t.data.toList;exact .inr (.inr (by omega))
theorem gn{s t:ByteArray}(h:gl s t):s≠t:=by rintro rfl;unfold gl at h;rw[tx] at h;omega
theorem qi{s t:ByteArray}(h:gl s t):¬gl t s:=by unfold gl at*;have:=dV s.data.toList t.data.toList;omega
theorem vp{s t u:ByteArray}(h:gl s t)(k:gl t u):gl s u:=by
  rcases uh s u with e|e|e
  · exact e
  · subst e;exact absurd k (qi h)
  · have h1 := gR u.data.toList s.data.toList t.data.toList (Int.le_of_lt e) (Int.le_of_lt h)
    have h2:=dV t.data.toList u.data.toList
    unfold gl at k;omega
theorem nR(s:ByteArray):∀{T:List RO},(T.Pairwise fun x y=>gl x.o.b.id y.o.b.id)→(∃A B,T=A++B∧(∀x∈A,gl x.o.b.id s)∧∀x∈B,gl s x.o.b.id)∨∃A x B,T=A++x::B∧(∀y∈A,gl y.o.b.id s)∧x.o.b.id =s
  |[],_=> .inl ⟨[],[],rfl,by simp,by simp⟩
  | x :: T, h => by
    obtain⟨h1,h2⟩:=List.pairwise_cons.1 h
    rcases uh x.o.b.id s with e|e|e
    · rcases nR s h2 with ⟨A, B, rfl, k1, k2⟩ | ⟨A, y, B, rfl, k1, k2⟩
      · exact .inl ⟨x::A,B,rfl,fun z hz=>(List.mem_cons.1 hz).elim (fun q=>q▸e) (k1 z),k2⟩
      · exact .inr ⟨x::A,y,B,rfl,fun z hz=>(List.mem_cons.1 hz).elim (fun q=>q▸e) (k1 z),k2⟩
    · exact .inr ⟨[],x,T,rfl,by simp,e⟩
    · exact .inl ⟨[],x::T,rfl,by simp,fun z hz=>(List.mem_cons.1 hz).elim (fun q=>q▸e) (fun q=>vp e (h1 z q))⟩
/-! ### the model -/
structure bE(W:Nat→Prop)(h:Heap)(rb:Nat)(M:Md)(T:List RO)(oa:Option Addr)(oc:Nat)(ea:Option Addr)(ec:Nat)(es:List Value):Prop where
  hm:h[rb]? =some (.cells #[.slice oa T.length oc, .slice ea M.E.length ec, .int .i64 M.t] 86)
  row:jN 97 h (.slice oa T.length oc) T.length 40 (bB T)
  gA:T.Pairwise fun x y=>gl x.o.b.id y.o.b.id
  ob:∀x∈T,M.f x.o.b.id =some x.o ∧x.o.dt.length ≤512∧Row h (.slice x.ca 0 x.cc) 0 4 (dr [])∧cz W h (.slice x.ba x.o.dt.length x.bc) x.o.dt.length 1 (x.o.dt.map bv)
  al:∀s o,M.f s=some o→∃x∈T,x.o.b.id =s
  er:cz W h (.slice ea M.E.length ec) M.E.length 1 es
  en:eQ W h es M.E
  ln:T.length =M.E.length
  t0:0≤M.t
  t1:M.t ≤1099511627776
  kb:0<rb
  ix:∀s o,M.f s=some o→0≤o.b.idx ∧o.b.idx <M.E.length
def bC(W:Nat→Prop)(h:Heap)(rb:Nat)(M:Md):Prop:=∃T oa oc ea ec es,bE W h rb M T oa oc ea ec es
def RG(rb:Nat)(h h':Heap):Prop:=Gr (fun k=>k=rb) h h'
section
variable {W W' F:Nat→Prop} {h h':Heap} {rb:Nat} {M:Md} {T A B:List RO} {oa:Option Addr} {oc:Nat} {ea:Option Addr} {ec:Nat} {es:List Value} {s:ByteArray}
theorem bE.fr(m:bE W h rb M T oa oc ea ec es)(g:Gr F h h')(hF:∀k,F k→(aY h k∨W k)∧oR 97 h k)(h1:¬F rb):bE W h' rb M T oa oc ea ec es:=
  ⟨by rw[g.2 rb (aj m.hm) h1];exact m.hm,m.row.fr g (fun k hk=>(hF k hk).2),m.gA,fun x hx=>by obtain⟨k1,k2,k3,k4⟩:=m.ob x hx;exact⟨k1,k2,k3.zero rfl,k4.fr g fun k hk=>(hF k hk).1⟩,m.al,m.er.fr g fun k hk=>(hF k hk).1,m.en.fr g fun k hk=>(hF k hk).1,m.ln,m.t0,m.t1,m.kb,m.ix⟩
theorem bC.fr(m:bC W h rb M)(g:Gr F h h')(hF:∀k,F k→(aY h k∨W k)∧oR 97 h k)(h1:¬F rb):bC W h' rb M:=by
  obtain⟨T,oa,oc,ea,ec,es,m⟩:=m;exact⟨T,oa,oc,ea,ec,es,m.fr g hF h1⟩
theorem bE.ext(m:bE W h rb M T oa oc ea ec es)(g:Ext h h'):bE W h' rb M T oa oc ea ec es:=m.fr (F:=fun _=>False) ⟨g.1,fun k hk _=>g.2 k hk (by simp)⟩ (fun _ e=>e.elim) id
theorem bC.ext(m:bC W h rb M)(g:Ext h h'):bC W h' rb M:=by obtain⟨T,oa,oc,ea,ec,es,m⟩:=m;exact⟨T,oa,oc,ea,ec,es,m.ext g⟩
theorem bC.kb(m:bC W h rb M):rb<h.size :=by obtain⟨_,_,_,_,_,_,m⟩:=m;exact aj m.hm
theorem bE.find(m:bE W h rb M T oa oc ea ec es)(s:ByteArray):(M.f s=none∧∃A B,T=A++B∧(∀x∈A,gl x.o.b.id s)∧∀x∈B,gl s x.o.b.id)∨∃A x B,T=A++x::B∧(∀y∈A,gl y.o.b.id s)∧x.o.b.id =s∧M.f s=some x.o :=by
  rcases nR s m.gA with⟨A,B,e,k1,k2⟩|⟨A,x,B,e,k1,k2⟩
  · refine .inl ⟨?_, A, B, e, k1, k2⟩
    cases hf:M.f s with
    |none=>rfl
    | some o =>
      obtain⟨x,hx,hs⟩:=m.al s o hf
      rw[e] at hx
      rcases List.mem_append.1 hx with h|h
      · exact absurd hs (gn (k1 x h))
      · exact absurd hs.symm (gn (k2 x h))
  · refine .inr ⟨A, x, B, e, k1, k2, ?_⟩
    have:=(m.ob x (by rw[e];simp)).1
    rw[k2] at this;exact this
theorem bE.kv(m:bE W h rb M T oa oc ea ec es)(s:ByteArray):aK s=false∨(aK s=true∧M.f s=none∧∃A B,T=A++B∧(∀x∈A,gl x.o.b.id s)∧∀x∈B,gl s x.o.b.id)∨(aK s=true∧∃A x B,T=A++x::B∧(∀y∈A,gl y.o.b.id s)∧x.o.b.id =s∧M.f s=some x.o):=by
  cases e:aK s with
  |false=>exact .inl rfl
  |true=>exact .inr ((m.find s).imp (fun k=>⟨rfl,k⟩) fun k=>⟨rfl,k⟩)
theorem bE.tick(m:bE W h rb M T oa oc ea ec es){t:Int}(g:RG rb h h')(hm:h'[rb]? =some (.cells #[.slice oa T.length oc, .slice ea M.E.length ec, .int .i64 t] 86))(h0:0≤t)(h1:t≤1099511627776):bE W h' rb ⟨M.f,M.E,t⟩ T oa oc ea ec es:=
  have nr:∀k,k=rb→aY h k∨W k:=fun k e=> .inl (e▸aY.cells m.hm (by decide))
  ⟨hm,m.row.fr g (fun k e=>e▸oR.cells m.hm (by decide)),m.gA,fun x hx=>by obtain⟨k1,k2,k3,k4⟩:=m.ob x hx;exact⟨k1,k2,k3.zero rfl,k4.fr g nr⟩,m.al,m.er.fr g nr,m.en.fr g nr,m.ln,h0,h1,m.kb,m.ix⟩
theorem zR{x y:RO}(h:(A++x::B).Pairwise fun x y=>gl x.o.b.id y.o.b.id)(e:y.o.b.id =x.o.b.id):(A++y::B).Pairwise fun x y=>gl x.o.b.id y.o.b.id :=by
  rw[List.pairwise_append,List.pairwise_cons] at*
  obtain⟨h1,⟨h2,h3⟩,h4⟩:=h
  refine⟨h1,⟨fun z hz=>by rw[e];exact h2 z hz,h3⟩,fun z hz w hw=> ?_⟩
  rcases List.mem_cons.1 hw with q|q
  · subst q;rw[e];exact h4 z hz x (by simp)
  · exact h4 z hz w (by simp[q])
theorem zS{y:RO}(h:(A++B).Pairwise fun x y=>gl x.o.b.id y.o.b.id)(hA:∀x∈A,gl x.o.b.id y.o.b.id)(hB:∀x∈B,gl y.o.b.id x.o.b.id):(A++y::B).Pairwise fun x y=>gl x.o.b.id y.o.b.id :=by
  rw[List.pairwise_append] at*
  refine⟨h.1,List.pairwise_cons.2 ⟨hB,h.2.1⟩,fun z hz w hw=> ?_⟩
  rcases List.mem_cons.1 hw with q|q
  · subst q;exact hA z hz
  · exact h.2.2 z hz w q
theorem bE.set{x y:RO}(m:bE W h rb M (A++x::B) oa oc ea ec es)(g:RG rb h h'){BF:Option Addr}{oc':Nat}(hm:h'[rb]? =some (.cells #[.slice BF (A++x::B).length oc', .slice ea M.E.length ec, .int .i64 M.t] 86))(row:jN 97 h' (.slice BF (A++x::B).length oc') (A++x::B).length 40 (bB (A++y::B)))
    (hb:y.o.b =x.o.b) (hd:y.o.dt =x.o.dt) (hba:y.ba =x.ba) (hbc:y.bc =x.bc) (hr:Row h' (.slice y.ca 0 y.cc) 0 4 (dr [])):bC W h' rb ⟨upd M.f x.o.b.id y.o,M.E,M.t⟩:=by
  have nr:∀k,k=rb→aY h k∨W k:=fun k e=> .inl (e▸aY.cells m.hm (by decide))
  have hl:(A++y::B).length =(A++x::B).length :=by simp
  have hne:∀z,z∈A∨z∈B→z.o.b.id ≠x.o.b.id :=fun z hz=>by
    have h:=m.gA
    rw[List.pairwise_append,List.pairwise_cons] at h
    rcases hz with hz|hz
    · exact gn (h.2.2 z hz x (by simp))
    · exact fun e=>gn (h.2.1.1 z hz) e.symm
  refine⟨A++y::B,BF,oc',ea,ec,es, ?_, ?_,zR m.gA (by rw[hb]),fun z hz=> ?_,fun t o ht=> ?_,m.er.fr g nr,m.en.fr g nr,by rw[hl];exact m.ln,m.t0,m.t1,m.kb,fun t o ht=> ?_⟩
  · rw[hl];exact hm
  · rw[hl];exact row
  · have hz' : z = y ∨ ((z ∈ A ∨ z ∈ B) ∧ z ∈ A ++ x :: B) := by
      rcases List.mem_append.1 hz with q|q
      · exact .inr ⟨.inl q,by simp[q]⟩
      · rcases List.mem_cons.1 q with q | q
        · exact .inl q
        · exact .inr ⟨.inr q,by simp[q]⟩
    rcases hz' with rfl|⟨q1,q2⟩
    · obtain ⟨_, k2, _, k4⟩ := m.ob x (by simp)
      refine⟨by rw[hb];exact gU _ _ _,by rw[hd];exact k2,hr, ?_⟩
      rw[hd,hba,hbc];exact k4.fr g nr
    · obtain ⟨k1, k2, k3, k4⟩ := m.ob z q2
      exact⟨by show upd M.f _ _ _=_;rw[upd_ne (hne z q1)];exact k1,k2,k3.zero rfl,k4.fr g nr⟩
  · by_cases e : t = x.o.b.id
    · exact⟨y,by simp,by rw[hb,e]⟩
    · obtain ⟨z, q1, q2⟩ := m.al t o (by rw [← ht]; exact (upd_ne e).symm)
      rcases List.mem_append.1 q1 with q|q
      · exact⟨z,by simp[q],q2⟩
      · rcases List.mem_cons.1 q with q | q
        · subst q;exact absurd q2.symm e
        · exact⟨z,by simp[q],q2⟩
  · have ht : upd M.f x.o.b.id y.o t = some o := ht
    by_cases e:t=x.o.b.id
    · subst e
      rw[gU] at ht
      cases ht
      rw[hb];exact m.ix _ _ (m.ob x (by simp)).1
    · rw [upd_ne e] at ht
      exact m.ix t o ht
theorem bE.put {y : RO} {e : List UInt8} {xa : Option Addr} {xc : Nat} (m : bE W h rb M (A ++ B) oa oc ea ec es) (hA : ∀ x ∈ A, gl x.o.b.id s) (hB : ∀ x ∈ B, gl s x.o.b.id) (hy : y.o.b.id = s) (hyl : y.o.dt.length ≤ 512) (hyi : y.o.b.idx = ((M.E.length : Nat) : Int)) (g : RG rb h h') {BF yY : Option Addr} {oc' yZ : Nat}
    (hm:h'[rb]? =some (.cells #[.slice BF (A++y::B).length oc', .slice yY (M.E.length +1) yZ, .int .i64 M.t] 86)) (row:jN 97 h' (.slice BF (A++y::B).length oc') (A++y::B).length 40 (bB (A++y::B))) (r1:Row h' (.slice y.ca 0 y.cc) 0 4 (dr [])) (r2:cz W h' (.slice y.ba y.o.dt.length y.bc) y.o.dt.length 1 (y.o.dt.map bv))
    (er:cz W h' (.slice yY (M.E.length +1) yZ) (M.E.length +1) 1 (es++[.slice xa e.length xc])) (he:e.length ≤64) (hx:cz W h' (.slice xa e.length xc) e.length 1 (e.map bv)):bC W h' rb ⟨upd M.f s y.o,M.E ++[e],M.t⟩:=by
  subst hy
  have nr:∀k,k=rb→aY h k∨W k:=fun k e=> .inl (e▸aY.cells m.hm (by decide))
  refine⟨A++y::B,BF,oc',yY,yZ,es++[.slice xa e.length xc], ?_,row,zS m.gA hA hB,fun z hz=> ?_,fun t o ht=> ?_, ?_, ?_, ?_,m.t0,m.t1,m.kb,fun t o ht=> ?_⟩
  · rw[show(M.E ++[e]).length =M.E.length +1 from by simp];exact hm
  · have hz' : z = y ∨ (z.o.b.id ≠ y.o.b.id ∧ z ∈ A ++ B) := by
      rcases List.mem_append.1 hz with q|q
      · exact .inr ⟨gn (hA z q),by simp[q]⟩
      · rcases List.mem_cons.1 q with q | q
        · exact .inl q
        · exact .inr ⟨fun e=>gn (hB z q) e.symm,by simp[q]⟩
    rcases hz' with rfl|⟨q1,q2⟩
    · exact⟨gU _ _ _,hyl,r1,r2⟩
    · obtain ⟨k1, k2, k3, k4⟩ := m.ob z q2
      exact⟨by show upd M.f _ _ _=_;rw[upd_ne q1];exact k1,k2,k3.zero rfl,k4.fr g nr⟩
  · by_cases e2 : t = y.o.b.id
    · exact⟨y,by simp,e2.symm⟩
    · obtain ⟨z, q1, q2⟩ := m.al t o (by rw [← ht]; exact (upd_ne e2).symm)
      rcases List.mem_append.1 q1 with q|q
      · exact⟨z,by simp[q],q2⟩
      · exact⟨z,by simp[q],q2⟩
  · rw[show(M.E ++[e]).length =M.E.length +1 from by simp];exact er
  · have m' := m.en.fr g nr
    refine⟨by simp[m'.1],fun i e' hi=> ?_⟩
    by_cases hl:i<M.E.length
    · rw [List.getElem?_append_left hl] at hi
      obtain⟨h0,a,c,h1,h2⟩:=m'.2 i e' hi
      exact⟨h0,a,c,by rw[List.getElem?_append_left (by rw[m'.1];exact hl)];exact h1,h2⟩
    · have h0 : i = M.E.length := by
        have:=(List.getElem?_eq_some_iff.1 hi).1
        simp at this;omega
      subst h0
      simp only[List.getElem?_concat_length,Option.some.injEq] at hi
      subst hi
      exact⟨he,xa,xc,by rw[←m'.1];simp,hx⟩
  · have:=m.ln;simp at this⊢;omega
  · have ht : upd M.f y.o.b.id y.o t = some o := ht
    have hl:(M.E ++[e]).length =M.E.length +1:=by simp
    by_cases e2:t=y.o.b.id
    · subst e2
      rw[gU] at ht
      cases ht
      rw[hyi];show(0:Int)≤_∧((M.E.length :Nat):Int)<(((M.E ++[e]).length :Nat):Int)
      rw[hl];omega
    · rw [upd_ne e2] at ht
      have:=m.ix t o ht
      show _∧_<(((M.E ++[e]).length :Nat):Int)
      rw[hl];omega
end
theorem bE.new{W:Nat→Prop}{h:Heap}{b:Nat}(m:h[b]? =some (.cells #[.slice none 0 0, .slice none 0 0, .int .i64 0] 86))(kb:0<b):bC W h b ⟨fun _=>none,[],0⟩:=
  ⟨[],none,0,none,0,[],{hm:=m,row:=jN.nil _ _ _,gA:=List.Pairwise.nil,ob:=by simp,al:=by simp,er:=cz.nil _ _ _,en:=⟨rfl,by simp⟩,ln:=rfl,t0:=by decide,t1:=by decide,kb:=kb,ix:=by simp}⟩
theorem RG.one{rb:Nat}{h h1 h2:Heap}(e:Ext h h1)(g:Grew (some rb) h1 h2):RG rb h h2:=(Gr.ext (Gr.start _ h) e).bX g fun _ e=> .inl (Option.some.inj e).symm
theorem RG.again{rb:Nat}{h h1 h2:Heap}(k:RG rb h h1)(g:Grew (some rb) h1 h2):RG rb h h2:=Gr.bX k g fun _ e=> .inl (Option.some.inj e).symm
theorem RG.then{rb:Nat}{h h1 h2:Heap}(k:RG rb h h1)(g:RG rb h1 h2):RG rb h h2:=⟨Nat.le_trans k.1 g.1,fun i hi hn=>(g.2 i (Nat.lt_of_lt_of_le hi k.1) hn).trans (k.2 i hi hn)⟩
theorem RG.aI{rb:Nat}{h h1:Heap}(e:Ext h h1):RG rb h h1:=Gr.ext (Gr.start _ h) e
theorem zT{E:List (List UInt8)}{i:Int}(h:0≤i∧i<(E.length :Int)):∃p,cO (cP E) i=(p,0):=by
  have hl:(cP E).length =E.length :=by unfold cP;simp
  refine⟨incl (cP E) i.toNat, ?_⟩
  unfold cO;rw[if_pos (by rw[hl];exact h)]
theorem iD{h:Heap}{v:Value}{A:An}{ba ia pa:Option Addr}{bc ic pc:Nat}(hv:v=pX A (.slice ba A.b.length bc) (.slice ia A.i.length ic) (.slice pa A.p.length pc))(o1:Own h (.slice ba A.b.length bc) 5 A.b.length 1 (A.b.map bv))(o2:Own h (.slice ia A.i.length ic) 9 A.i.length 1 (A.i.map Value.string))(o3:Own h (.slice pa A.p.length pc) 39 A.p.length 32 (hcs A.p))(h32:aq A.p):AnsAt h v A:=
  ⟨ba,bc,ia,ic,pa,pc,hv,ay.of o1 (by decide),ay.of o2 (by decide),ay.of o3 (by decide),h32⟩
def ry(s:ByteArray)(b:List UInt8)(n:Nat)(ad:Option Addr)(cap:Nat):RO:=⟨pP s b n,none,0,ad,cap⟩
theorem bE.Fx{W:Nat→Prop}{h h':Heap}{rb:Nat}{M:Md}{T:List RO}{oa:Option Addr}{oc:Nat}{ea:Option Addr}{ec:Nat}{es:List Value}(m:bE W h rb M T oa oc ea ec es)(g:RG rb h h'):cz W h' (.slice ea M.E.length ec) M.E.length 1 es:=
  m.er.fr g fun k e=> .inl (e▸aY.cells m.hm (by decide))
theorem Fy{a:Option Addr}{c k:Nat}:a=if c=0 then a else a.map (·.add (0*k)):=by
  split
  · rfl
  · cases a<;>simp[Addr.add]
/-! ### the records of the row -/
open Go.Proofs.YtegkejcglfgpmaaGreatDoor
@[reducible] def iI(x:RO):Rec:=⟨x.o.b,x.o.e,x.o.ho,x.o.go,x.ca,0,x.cc⟩
section
variable {W:Nat→Prop} {h:Heap} {rb:Nat} {M:Md} {T:List RO} {oa:Option Addr} {oc:Nat} {ea:Option Addr} {ec:Nat} {es:List Value} {S:List Rec} {k:Nat} {x:RO}
theorem bE.enum(m:bE W h rb M T oa oc ea ec es):dQ M (T.map iI) where
  nd:=by
    rw[List.map_map]
    exact List.pairwise_map.2 (m.gA.imp fun q=>gn q)
  at_:=fun r hr=>by obtain⟨x,hx,rfl⟩:=List.mem_map.1 hr;exact⟨x.o,(m.ob x hx).1,rfl,rfl,rfl,rfl⟩
  al:=fun s o hs=>by obtain⟨x,hx,e⟩:=m.al s o hs;exact⟨iI x,List.mem_map.2 ⟨x,hx,rfl⟩,e⟩
theorem bE.CO(m:bE W h rb M T oa oc ea ec es):iW M=live (T.map iI):=by
  rw[ll m.enum]
  refine List.mergeSort_of_pairwise ?_
  unfold live ids
  refine List.pairwise_map.2 (List.Pairwise.sublist List.filter_sublist (List.pairwise_map.2 (m.gA.imp fun {a b} q=> ?_)))
  have:Go.Proofs.ltOf u5 b.o.b.id a.o.b.id =false:=zz.2 (by have:=dV a.o.b.id.data.toList b.o.b.id.data.toList;unfold gl at q;omega)
  simp[this]
theorem bE.D5(m:bE W h rb M T oa oc ea ec es)(hp:S.Perm ((T.map iI).filter (dW M.t)))(hs:S.Pairwise gy):eZ M=Go.aL.ids S:=tS m.enum hp fun p q _ h2 h3=>by
  have:=List.pairwise_iff_getElem.1 hs p q (by omega) h3 h2
  simpa[List.getD,h3,Nat.lt_trans h2 h3] using this
theorem iE(hx:T[k]? =some x):(T.take (k+1)).map iI=(T.take k).map iI++[iI x]:=by rw[List.take_add_one,hx];simp
theorem iF(hx:T[k]? =some x)(hg:x.o.go =true):live ((T.take (k+1)).map iI)=live ((T.take k).map iI):=by rw[iE hx];simp[live,ids,List.filter_append,tM,hg]
theorem iG(hx:T[k]? =some x)(hg:x.o.go =false):live ((T.take (k+1)).map iI)=live ((T.take k).map iI)++[x.o.b.id]:=by rw[iE hx];simp[live,ids,List.filter_append,tM,hg]
end
/-! ### places in the row -/
/-- the place of an id in the row: where it is, or would be -/
def AtP(T:List RO)(s:ByteArray)(k:Nat)(r:Bool):Prop:=∃A B,T=A++B∧A.length =k∧(∀x∈A,gl x.o.b.id s)∧((B=[]∧r=false)∨∃x B',B=x::B'∧¬gl x.o.b.id s∧r=decide (x.o.b.id =s))
section
variable {T A B:List RO} {s:ByteArray} {k i j:Nat} {x:RO} {r:Bool}
theorem AtP.step(a:AtP T s k r)(hi:i≤k):(i<k∧i<T.length ∧∃x,T[i]? =some x∧gl x.o.b.id s)∨(i=k∧¬i<T.length ∧r=false)∨(i=k∧i<T.length ∧∃x,T[i]? =some x∧¬gl x.o.b.id s∧decide (x.o.b.id =s)=r):=by
  obtain⟨A,B,rfl,rfl,hA,hB⟩:=a
  rcases Nat.lt_or_ge i A.length with h|h
  · exact .inl ⟨h,by rw[List.length_append];omega,A[i],by rw[List.getElem?_append_left h,List.getElem?_eq_getElem h],hA _ (List.getElem_mem h)⟩
  · have e : i = A.length := by omega
    subst e
    rcases hB with⟨rfl,h0⟩|⟨x,B',rfl,h1,h2⟩
    · exact .inr (.inl ⟨rfl,by simp,h0⟩)
    · exact .inr (.inr ⟨rfl,by simp,x,by simp,h1,h2.symm⟩)
theorem AtP.no(hA:∀x∈A,gl x.o.b.id s)(hB:∀x∈B,gl s x.o.b.id):AtP (A++B) s A.length false:=by
  refine⟨A,B,rfl,rfl,hA, ?_⟩
  cases B with
  |nil=>exact .inl ⟨rfl,rfl⟩
  |cons x B=>exact .inr ⟨x,B,rfl,qi (hB x (by simp)),(decide_eq_false fun e=>gn (hB x (by simp)) e.symm).symm⟩
theorem AtP.yes(hA:∀x∈A,gl x.o.b.id s)(e:x.o.b.id =s):AtP (A++x::B) s A.length true:=
  ⟨A,x::B,rfl,rfl,hA, .inr ⟨x,B,rfl,fun h=>gn h e,(decide_eq_true e).symm⟩⟩
def Fz(T:List RO)(s:ByteArray)(q:Nat)(e:Int):Prop:=(aK s=false∧q=0∧e=210)∨(aK s=true∧(∃k,AtP T s k false)∧q=0∧e=211)∨(aK s=true∧AtP T s q true∧e=0)
theorem A4(hx:T[k]? =some x):T.getD k D4=x∧k<T.length :=⟨by simp[List.getD,hx],(List.getElem?_eq_some_iff.1 hx).1⟩
theorem xr:A.length <(A++x::B).length :=by rw[List.length_append,List.length_cons];omega
theorem BG:0<(A++x::B).length :=by rw[List.length_append,List.length_cons];omega
theorem rZ:(A++x::B)[A.length]? =some x:=by simp
end
end Go.aL
namespace Go.ai
open Go Go.aL
section
variable {P:Program} {h:Heap} {a:Addr} {va xa:Option Addr} {n c m k q j:Nat} {T A B:List RO} {x:RO} {S:TypeId} {u:Value}
theorem Row.ro(r:Row h (.slice (some a) n c) m 40 (bB T))(hx:T[k]? =some x)(hS:cM P S=some (true,40))(hq:q=k*40):Loads P h S (a.add q) (.agg (rY x).toArray):=by
  obtain⟨e,hk⟩:=A4 hx;rw[←e];exact Row.fm (d:=D4) jO r hS hk hq
theorem Row.D6(r:Row h (.slice (some a) n c) m 40 (bB T))(hx:T[k]? =some x)(hu:(rY x)[j]? =some u):hcell h (a.add (k*40+j))=some u:=by
  obtain⟨e,hk⟩:=A4 hx;rw[←e] at hu;exact r.cells _ _ (oH (d:=D4) jO hk hu)
theorem Row.xt(r:Row h (.slice (some a) n c) m 40 (bB T))(hx:T[k]? =some x):hcell h (a.add (k*40))=some (.string x.o.b.id):=Row.D6 (k:=k) (j:=0) r hx rfl
theorem Row.CP(r:Row h (.slice (some a) n c) m 40 (bB T))(hx:T[k]? =some x):hcell h (a.add (k*40+37))=some (.bool x.o.go):=Row.D6 (k:=k) (j:=37) r hx rfl
theorem Row.Du(r:Row h (.slice (some a) n c) m 40 (bB T))(hx:T[k]? =some x)(hS:cM P S=some (true,39))(hq:q=k*40):Loads P h S (a.add q) (.agg (rc x.o.b x.o.e x.o.ho x.o.go (.slice x.ca 0 x.cc)).toArray):=by
  subst hq
  refine Loads.agg hS fun j u hu=> ?_
  rw[add_add]
  exact r.D6 hx (by show(rc x.o.b x.o.e x.o.ho x.o.go (.slice x.ca 0 x.cc)++[_])[j]? =some u;rw[List.getElem?_append_left (List.getElem?_eq_some_iff.1 hu).1];exact hu)
theorem Row.CQ{b:Nat}{E:TypeId}{fr:Nat×Nat}(m:h[b]? =some (.cells (rY x).toArray E fr)):Row h (.slice (some ⟨b,0,none⟩) 1 1) 1 40 (bB [x]):=by
  rw[show bB [x]=rY x from List.append_nil _];exact Row.blk m rfl
theorem Row.A5{b:Nat}{E:TypeId}{fr:Nat×Nat}(m:h[b]? =some (.cells (rcs (iI x)).toArray E fr)):Row h (.slice (some ⟨b,0,none⟩) 1 1) 1 39 (a_ [iI x]):=by
  rw[show a_ [iI x]=rcs (iI x) from List.append_nil _];exact Row.blk m rfl
theorem bE.aM{W:Nat→Prop}{h h':Heap}{rb c:Nat}{M:Md}{T:List RO}{oa:Option Addr}{oc:Nat}{ea:Option Addr}{ec:Nat}{es:List Value}{cs:Array Value}{E:TypeId}{fr:Nat×Nat}(m:bE W h rb M T oa oc ea ec es)(g:Grew (some c) h h')(k:h[c]? =some (.cells cs E fr))(hE:lj E=false)(hT:E≠97)(hn:rb≠c):bE W h' rb M T oa oc ea ec es:=
  m.fr (F:=fun i=>i=c) ⟨g.1,fun _ hi hne=>g.2 _ hi fun e=>hne (Option.some.inj e)⟩ (fun _ e=>e▸⟨.inl (aY.cells k hE),oR.cells k hT⟩) hn
theorem _root_.Go.aL.bC.aM{W:Nat→Prop}{h h':Heap}{rb c:Nat}{M:Md}{cs:Array Value}{E:TypeId}{fr:Nat×Nat}(m:bC W h rb M)(g:Grew (some c) h h')(k:h[c]? =some (.cells cs E fr))(hE:lj E=false∧E≠97)(hn:rb≠c):bC W h' rb M:=by
  obtain⟨T,oa,oc,ea,ec,es,m⟩:=m;exact⟨T,oa,oc,ea,ec,es,bE.aM m g k hE.1 hE.2 hn⟩
theorem Row.CR(r:Row h (.slice va (A++B).length c) (A++B).length 40 (bB (A++B))):Row h (.slice va A.length c) A.length 40 (bB A):=by
  refine⟨kC A, ?_⟩
  rcases r.2 with⟨e,h0⟩|⟨a,cap,e,hc,hx⟩
  · rw [List.length_append] at h0
    have h1:A.length =0:=by omega
    simp only[Value.slice.injEq] at e
    obtain⟨rfl,_,rfl⟩:=e
    exact .inl ⟨by rw[h1],h1⟩
  · simp only [Value.slice.injEq] at e
    obtain⟨rfl,_,rfl⟩:=e
    exact .inr ⟨a,_,rfl,by rw[List.length_append] at hc;omega,fun j u hu=>hx j u (by show((A++B).flatMap rY)[j]? =_;rw[List.flatMap_append,List.getElem?_append_left (List.getElem?_eq_some_iff.1 hu).1];exact hu)⟩
theorem Row.CT(r:Row h (.slice va (A++B).length c) (A++B).length 40 (bB (A++B)))(e:xa=if c=A.length then va else va.map (·.add (A.length *40))):Row h (.slice xa ((A++B).length - A.length) (c - A.length)) B.length 40 (bB B):=by
  have hl:(A++B).length - A.length =B.length :=by simp
  rw[hl]
  refine⟨kC B, ?_⟩
  rcases r.2 with⟨e2,h0⟩|⟨a,cap,e2,hc,hx⟩
  · rw [List.length_append] at h0
    have h1:A.length =0:=by omega
    have h2:B.length =0:=by omega
    simp only[Value.slice.injEq] at e2
    obtain⟨rfl,_,rfl⟩:=e2
    refine .inl ⟨?_,h2⟩
    rw[e,h1,h2];rfl
  · simp only [Value.slice.injEq] at e2
    obtain⟨rfl,_,rfl⟩:=e2
    rw[List.length_append] at hc
    by_cases hb:c=A.length
    · have h2 : B = [] := List.eq_nil_of_length_eq_zero (by omega)
      subst h2
      rw[if_pos hb] at e
      subst e
      exact .inr ⟨a,_,rfl,by simp,fun j u hu=>by simp[bB] at hu⟩
    · rw [if_neg hb] at e
      subst e
      refine .inr ⟨a.add (A.length *40),_,rfl,by omega,fun j u hu=> ?_⟩
      rw[add_add]
      refine hx _ u ?_
      show((A++B).flatMap rY)[_]? =_
      rw[List.flatMap_append,List.getElem?_append_right (by rw[fb jO];omega),fb jO,Nat.add_sub_cancel_left]
      exact hu
theorem vq{e:Int}{ho go:Bool}{ca:Option Addr}{cc:Nat}:splice (bB (A++x::B)) (A.length *40) (rc x.o.b e ho go (.slice ca 0 cc))=bB (A++⟨⟨x.o.b,e,ho,go,x.o.dt⟩,ca,cc,x.ba,x.bc⟩::B):=by
  have h1:(bB A).length =A.length *40:=kC A
  have h2:(rc x.o.b e ho go (.slice ca 0 cc)).length =39:=rfl
  have h3:(rc x.o.b x.o.e x.o.ho x.o.go (.slice x.ca 0 x.cc)).length =39:=rfl
  unfold splice
  show(((A++x::B).flatMap rY).take _++_++((A++x::B).flatMap rY).drop _)=(A++_::B).flatMap rY
  rw[List.flatMap_append,List.flatMap_append,List.flatMap_cons,List.flatMap_cons,List.take_left' h1, ←List.drop_drop,List.drop_left' h1,h2]
  show _=A.flatMap rY++((rc x.o.b e ho go (.slice ca 0 cc)++[_])++_)
  rw[show rY x++B.flatMap rY=rc x.o.b x.o.e x.o.ho x.o.go (.slice x.ca 0 x.cc)++([.slice x.ba x.o.dt.length x.bc]++B.flatMap rY) from List.append_assoc _ _ _,List.drop_left' h3]
  simp only[List.append_assoc]
end
end Go.ai
end
section
namespace Go.Proofs.YtegkejcglfgpmaaGreatDoor
open Go Go.ai Go.aL
noncomputable def FA:Code:=Tryz.f122.body.getD .skip
theorem xu(h:Heap):Sat Tryz.prog 122 #[.slice none 0 0] h fun v h'=>nf h h' 180 v []:=by
 refine ag Tryz.func122 8 fun a b=>qP [] b fun a b=>cS<|qP [(4,.bool true)] b fun a b=>cT 4 b<|qP [(2,.slice none 0 0)] b fun a b=>cR (yT ?_)
 exact rT 2 (.slice none 0 0) b<|⟨none,0,rfl,Own.nil _ _ _,(fun k e=>by cases e),Ext.refl h⟩
theorem vr(h:Heap)(L:List Pl)(aa:Addr)(vc:Nat)(hr:Row h (.slice (some aa) L.length vc) L.length 4 (dr L))(hL:L.length ≤1099511627776):Sat Tryz.prog 122 #[.slice (some aa) L.length vc] h fun v h'=>nf h h' 180 v L:=by
 have f:=Ext.refl h
 have c:Sep h.size h.size []:=Sep.nil _ _
 refine ag Tryz.func122 8 fun a d=>qP [] d fun a d=>cS<|qP [(4,.bool false)] d fun a d=>cF 4 d<|cN<|tK ?_
 refine qS d<|tN 0 (.slice (some ⟨h.size,0,none⟩) 0 0) #[] 180 fun k m j=> ?_
 replace c:=c.nw f.size j
 have b:Own k (.slice (some ⟨h.size,0,none⟩) 0 0) 180 ([]:List Pl).length 4 (dr []):=Own.empty 4 j
 replace c:Sep h.size k.size [(some ⟨h.size,0,none⟩:Option Addr).map (·.block)]:=c
 replace f:=f.ext m
 replace hr:=hr.ext m
 clear j
 refine tP 2 L.length 32 (dr L) b hr (pH _) (fun g e p b n i=> ?_) (hl:=(by unfold maxLen;simp;omega)) (hb:=(by simp;omega)) (hZ:=by first|rfl|exact List.flatMap_append.symm |simp[dr])
 clear hr
 have o:=c
 replace c:=c.sa n 0 i b f.size;clear i
 refine sT [(2,.slice g L.length e)] fun a d=>cR<|rT 2 (.slice g L.length e) d ?_
 replace f:=f.grew n (o.l 0)
 exact⟨_,_,rfl,b,c.low 0 rfl,f⟩
theorem kD(h:Heap)(L:List Pl)(va:Option Addr)(vc:Nat)(hr:Row h (.slice va L.length vc) L.length 4 (dr L))(hL:L.length ≤1099511627776):Sat Tryz.prog 122 #[.slice va L.length vc] h fun v h'=>nf h h' 180 v L:=by
 cases va with
 | none =>
  rcases hr.2 with⟨e,e1⟩|⟨a,cap,e,_⟩
  ·simp only[Value.slice.injEq,true_and] at e
   obtain rfl:L=[]:=List.eq_nil_of_length_eq_zero e1
   obtain rfl:vc=0:=e.2
   exact xu h
  ·cases e
 |some aa=>exact vr h L aa vc hr hL
noncomputable def FB:Code:=Tryz.f101.body.getD .skip
theorem vt(h:Heap)(br:Nat)(x:RB)(e:Int)(ho go:Bool)(va:Option Addr)(n vc:Nat)(hm:h[br]? =some (.cells (rc x e ho go (.slice va n vc)).toArray 95))(bu:Nat)(u:Int)(hu:h[bu]? =some (.cells #[.int .i64 u] 3))(hne:bu≠br):Sat Tryz.prog 101 #[.pointer (some ⟨br,0,none⟩),.pointer (some ⟨bu,0,none⟩)] h fun _ h'=>h'[br]? =some (.cells (rc x (max e u) ho go (.slice va n vc)).toArray 95)∧Grew (some br) h h':=by
 have b:=Grew.refl (some br) h
 refine ag Tryz.func101 12 fun a c=>cD [0,0,2,6,14,0,62,127,255,511] 0 mixed c<|mP 15 [0,1,2,3] [pV br,pV br,pV br,.pointer (some ⟨br,35,none⟩)]<|mO 31 16 4 35 (.int .i64 e) hm<|mO 63 48 5 0 (.int .i64 u) hu<|m1 127 6 (.int .i64 (max e u)) (.int .i64 (if u>e then u else e)) (congrArg (Value.int .i64) (by rw[Int.max_def];split<;>split<;>omega))<|mP 511 [7,8] [pV br,.pointer (some ⟨br,35,none⟩)] ?_
 refine mV 1023 1023 9 35 [.int .i64 (max e u)] (rc x (max e u) ho go (.slice va n vc)) hm fun g d f=> ?_
 replace b:=b.trans d
 replace hu:=hu.y d
 replace hm:=f
 exact mE [] fun a c=>n0 c<|⟨hm,b⟩
noncomputable def FC:Code:=Tryz.f102.body.getD .skip
theorem vu(h:Heap)(br:Nat)(x:RB)(e:Int)(ho go:Bool)(va:Option Addr)(n vc:Nat)(hm:h[br]? =some (.cells (rc x e ho go (.slice va n vc)).toArray 95))(bu:Nat)(on:Bool)(hu:h[bu]? =some (.cells #[.bool on] 4))(hne:bu≠br):Sat Tryz.prog 102 #[.pointer (some ⟨br,0,none⟩),.pointer (some ⟨bu,0,none⟩)] h fun _ h'=>h'[br]? =some (.cells (rc x e on go (.slice va n vc)).toArray 95)∧Grew (some br) h h':=by
 have b:=Grew.refl (some br) h
 refine ag Tryz.func102 7 fun a c=>rS c<|tO 1 0 hu<|tV 4 36 [.bool on] (rc x e on go (.slice va n vc)) hm fun g d f=> ?_
 replace b:=b.trans d
 replace hu:=hu.y d
 replace hm:=f
 exact sE [] fun a c=>n0 c<|⟨hm,b⟩
noncomputable def FD:Code:=Tryz.f103.body.getD .skip
theorem xv(h:Heap)(br:Nat)(x:RB)(e:Int)(ho go:Bool)(va:Option Addr)(n vc:Nat)(hm:h[br]? =some (.cells (rc x e ho go (.slice va n vc)).toArray 95)):Sat Tryz.prog 103 #[.pointer (some ⟨br,0,none⟩)] h fun _ h'=>h'[br]? =some (.cells (rc x e ho true (.slice none 0 0)).toArray 95)∧Grew (some br) h h':=by
 have b:=Grew.refl (some br) h
 refine ag Tryz.func103 8 fun a c=>rS c<|tV 4 37 [.bool true] (rc x e ho true (.slice va n vc)) hm fun i f d=> ?_
 replace b:=b.trans f
 replace hm:=d
 refine tV 7 38 [.slice none 0 0] (rc x e ho true (.slice none 0 0)) hm fun j g d=> ?_
 replace b:=b.trans g
 replace hm:=d
 exact sE [] fun a c=>n0 c<|⟨hm,b⟩
noncomputable def FF:Code:=Tryz.f100.body.getD .skip
theorem qj(h:Heap)(x:RB)(e:Int)(ho go:Bool)(L:List Pl)(va:Option Addr)(vc:Nat)(hr:Row h (.slice va L.length vc) L.length 4 (dr L))(hL:L.length ≤1099511627776)(bu:Nat)(u:Int)(hu:h[bu]? =some (.cells #[.int .i64 u] 3)):Sat Tryz.prog 100 #[.agg (rc x e ho go (.slice va L.length vc)).toArray,.func (.func 101) #[] #[.pointer (some ⟨bu,0,none⟩)]] h fun v h'=>∃c,v= .agg (rc x (max e u) ho go c).toArray ∧nf h h' 180 c L:=by
 have i:=Ext.refl h
 have b:Sep h.size h.size []:=Sep.nil _ _
 have B:=aj hu
 refine ag Tryz.func100 12 fun a r=>qS r<|tN 0 (pV h.size) ((rc x e ho go (.slice va L.length vc)).toArray) 95 fun E F m=> ?_
 replace b:=b.nw i.size m
 refine tN 1 (pV E.size) ((bZ).toArray) 95 fun K C q=> ?_
 replace i:=i.ext F
 replace b:=b.nw i.size q
 refine sT [(2,pV h.size),(4,pV E.size)] fun a r=>qS r ?_
 replace m:=m.x C
 refine tO 1 38 m ?_
 replace i:=i.ext C
 refine tG 2 (kD _ L va vc (hr.ext i) hL) ?_
 rintro _ G ⟨n,j,rfl,o,w,g⟩
 have z:=i.size
 have s:=b
 replace hu:=(hu.x F).x C
 replace i:=i.ext g
 replace hu:=hu.x g
 replace m:=m.x g
 replace q:=q.x g
 replace b:=b.up g.size
 replace b:=s.cons (x:=n.map (fun(x:Addr)=>x.block)) g.size z (fun k e=>⟨w k e,o.lt (by rw[ae];exact e)⟩)
 have d:Own G (.slice n L.length j) 180 L.length 4 (dr L):=o;clear o s z w g
 refine tV 4 38 [.slice n L.length j] (rc x e ho go (.slice n L.length j)) m fun H p D=> ?_
 replace hu:=hu.y p (fun e=>by have:=b.low 2 rfl _ e.symm;omega)
 replace m:=D
 refine sT [] fun a r=>qS r<|tF 1 (Does.call (f:=101) (args:= #[.pointer (some ⟨h.size,0,none⟩),.pointer (some ⟨bu,0,none⟩)]) (by kernel_rfl) (vt _ _ x e ho go _ _ _ m bu u hu (by have:=B;omega))) ?_
 rintro _ I ⟨A,g⟩
 replace i:=i.grew p (b.l 2)
 replace d:=d.k p (b.ap 0 2)
 replace q:=q.y p (b.bp 1 2)
 replace b:=b.up p.size
 replace i:=i.grew g (b.l 2)
 replace d:=d.k g (b.ap 0 2)
 replace hu:=hu.y g (fun e=>by have:=b.low 2 rfl _ e.symm;omega)
 replace q:=q.y g (b.bp 1 2)
 replace b:=b.up g.size
 clear m;have m:=A;clear A g
 refine sT [] fun a r=>qS r<|tR 0 m<|bt 1 (rc x (max e u) ho go (.slice n L.length j)) q fun J t D=> ?_
 replace hu:=hu.y t (fun e=>by have:=b.low 1 rfl _ e.symm;omega)
 replace q:=D
 refine sT [] fun a r=>cR<|rB q r ?_
 replace i:=i.grew t (b.l 1)
 replace d:=d.k t (b.ap 0 1)
 exact⟨_,rfl,⟨_,_,rfl,d,b.low 0 rfl,i⟩⟩
theorem qk(h:Heap)(x:RB)(e:Int)(ho go:Bool)(L:List Pl)(va:Option Addr)(vc:Nat)(hr:Row h (.slice va L.length vc) L.length 4 (dr L))(hL:L.length ≤1099511627776)(bu:Nat)(on:Bool)(hu:h[bu]? =some (.cells #[.bool on] 4)):Sat Tryz.prog 100 #[.agg (rc x e ho go (.slice va L.length vc)).toArray,.func (.func 102) #[] #[.pointer (some ⟨bu,0,none⟩)]] h fun v h'=>∃c,v= .agg (rc x e on go c).toArray ∧nf h h' 180 c L:=by
 have i:=Ext.refl h
 have b:Sep h.size h.size []:=Sep.nil _ _
 have A:=aj hu
 refine ag Tryz.func100 12 fun a r=>qS r<|tN 0 (pV h.size) ((rc x e ho go (.slice va L.length vc)).toArray) 95 fun D E m=> ?_
 replace b:=b.nw i.size m
 refine tN 1 (pV D.size) ((bZ).toArray) 95 fun J B q=> ?_
 replace i:=i.ext E
 replace b:=b.nw i.size q
 refine sT [(2,pV h.size),(4,pV D.size)] fun a r=>qS r ?_
 replace m:=m.x B
 refine tO 1 38 m ?_
 replace i:=i.ext B
 refine tG 2 (kD _ L va vc (hr.ext i) hL) ?_
 rintro _ F ⟨n,j,rfl,o,u,g⟩
 have w:=i.size
 have s:=b
 replace hu:=(hu.x E).x B
 replace i:=i.ext g
 replace hu:=hu.x g
 replace m:=m.x g
 replace q:=q.x g
 replace b:=b.up g.size
 replace b:=s.cons (x:=n.map (fun(x:Addr)=>x.block)) g.size w (fun k e=>⟨u k e,o.lt (by rw[ae];exact e)⟩)
 have d:Own F (.slice n L.length j) 180 L.length 4 (dr L):=o;clear o s w u g
 refine tV 4 38 [.slice n L.length j] (rc x e ho go (.slice n L.length j)) m fun G p C=> ?_
 replace hu:=hu.y p (fun e=>by have:=b.low 2 rfl _ e.symm;omega)
 replace m:=C
 refine sT [] fun a r=>qS r<|tF 1 (Does.call (f:=102) (args:= #[.pointer (some ⟨h.size,0,none⟩),.pointer (some ⟨bu,0,none⟩)]) (by kernel_rfl) (vu _ _ x e ho go _ _ _ m bu on hu (by have:=A;omega))) ?_
 rintro _ H ⟨z,g⟩
 replace i:=i.grew p (b.l 2)
 replace d:=d.k p (b.ap 0 2)
 replace q:=q.y p (b.bp 1 2)
 replace b:=b.up p.size
 replace i:=i.grew g (b.l 2)
 replace d:=d.k g (b.ap 0 2)
 replace hu:=hu.y g (fun e=>by have:=b.low 2 rfl _ e.symm;omega)
 replace q:=q.y g (b.bp 1 2)
 replace b:=b.up g.size
 clear m;have m:=z;clear z g
 refine sT [] fun a r=>qS r<|tR 0 m<|bt 1 (rc x e on go (.slice n L.length j)) q fun I t C=> ?_
 replace hu:=hu.y t (fun e=>by have:=b.low 1 rfl _ e.symm;omega)
 replace q:=C
 refine sT [] fun a r=>cR<|rB q r ?_
 replace i:=i.grew t (b.l 1)
 replace d:=d.k t (b.ap 0 1)
 exact⟨_,rfl,⟨_,_,rfl,d,b.low 0 rfl,i⟩⟩
theorem r_(h:Heap)(x:RB)(e:Int)(ho go:Bool)(L:List Pl)(va:Option Addr)(vc:Nat)(hr:Row h (.slice va L.length vc) L.length 4 (dr L))(hL:L.length ≤1099511627776):Sat Tryz.prog 100 #[.agg (rc x e ho go (.slice va L.length vc)).toArray,.func (.func 103) #[] #[]] h fun v h'=>v= .agg (rc x e ho true (.slice none 0 0)).toArray ∧Ext h h':=by
 have d:=Ext.refl h
 have b:Sep h.size h.size []:=Sep.nil _ _
 refine ag Tryz.func100 12 fun a o=>qS o<|tN 0 (pV h.size) ((rc x e ho go (.slice va L.length vc)).toArray) 95 fun A C i=> ?_
 replace b:=b.nw d.size i
 refine tN 1 (pV A.size) ((bZ).toArray) 95 fun H B n=> ?_
 replace d:=d.ext C
 replace b:=b.nw d.size n
 refine sT [(2,pV h.size),(4,pV A.size)] fun a o=>qS o ?_
 replace i:=i.x B
 refine tO 1 38 i ?_
 replace d:=d.ext B
 refine tG 2 (kD _ L va vc (hr.ext d) hL) ?_
 rintro _ D ⟨p,j,rfl,m,s,g⟩
 have t:=d.size
 have r:=b
 replace d:=d.ext g
 replace i:=i.x g
 replace n:=n.x g
 replace b:=b.up g.size
 replace b:=r.cons (x:=p.map (fun(x:Addr)=>x.block)) g.size t (fun k e=>⟨s k e,m.lt (by rw[ae];exact e)⟩)
 have c:Own D (.slice p L.length j) 180 L.length 4 (dr L):=m;clear m r t s g
 refine tV 4 38 [.slice p L.length j] (rc x e ho go (.slice p L.length j)) i fun E q w=> ?_
 replace i:=w
 refine sT [] fun a o=>qS o<|tF 1 (Does.call (f:=103) (args:= #[.pointer (some ⟨h.size,0,none⟩)]) (by kernel_rfl) (xv _ _ x e ho go _ _ _ i)) ?_
 rintro _ F ⟨u,g⟩
 replace d:=d.grew q (b.l 2)
 replace c:=c.k q (b.ap 0 2)
 replace n:=n.y q (b.bp 1 2)
 replace b:=b.up q.size
 replace d:=d.grew g (b.l 2)
 replace c:=c.k g (b.ap 0 2)
 replace n:=n.y g (b.bp 1 2)
 replace b:=b.up g.size
 clear i;have i:=u;clear u g
 refine sT [] fun a o=>qS o<|tR 0 i<|bt 1 (rc x e ho true (.slice none 0 0)) n fun G z w=> ?_
 replace n:=w
 refine sT [] fun a o=>cR<|rB n o ?_
 replace d:=d.grew z (b.l 1)
 exact⟨rfl,d⟩
noncomputable def b68:Code:=Tryz.f68.body.getD .skip
theorem vv(h:Heap)(x:RB)(e:Int)(ho:Bool)(L:List Pl)(va:Option Addr)(vc:Nat)(u:Int)(hu0:0≤u)(hu:u≤1099511627776):Sat Tryz.prog 68 #[.agg (rc x e ho true (.slice va L.length vc)).toArray,.int .i64 u] h fun v h'=>v= .tuple #[.agg (rc dF (0:Int) false false (.slice none 0 0)).toArray,.int .i64 213]∧Ext h h':=by
 have d:=Ext.refl h
 have b:Sep h.size h.size []:=Sep.nil _ _
 refine ag Tryz.func68 21 fun a c=>qS c<|tN 0 (pV h.size) ((rc x e ho true (.slice va L.length vc)).toArray) 95 fun m p g=> ?_
 replace b:=b.nw d.size g
 refine tN 1 (pV m.size) #[.int .i64 u] 3 fun n o f=> ?_
 replace d:=d.ext p
 replace b:=b.nw d.size f
 refine tN 2 (pV n.size) ((bZ).toArray) 95 fun s j i=> ?_
 replace d:=d.ext o
 replace b:=b.nw d.size i
 refine sT [(2,pV h.size),(3,pV m.size),(4,pV n.size)] fun a c=>cS<|cB 0<|qS c ?_
 replace f:=f.x j
 refine tO 0 0 f<|tX 1 (u<(0:Int))<|tO 3 0 f<|tX 4 ((1099511627776:Int)<u)<|sT [(6,.bool false)] fun a c=>cF 6 c<|qS c ?_
 replace g:=(g.x o).x j
 refine tO 1 37 g<|sT [(14,.bool true)] fun a c=>cT 14 c<|qS c<|bt 1 (bZ) i fun q k r=> ?_
 replace i:=r
 refine sT [(5,.int .i64 213)] fun a c=>cR (yB (yT ?_))
 refine aA [.cell 4 95,.tmp 5] [.agg (bZ).toArray,.int .i64 213] (.tuple #[.agg (bZ).toArray,.int .i64 213]) rfl c ⟨⟨_,rfl,Loads.blk (vs:=bZ) (by kernel_rfl) i rfl⟩,rfl,trivial⟩ rfl ?_
 replace d:=(d.ext j).grew k (b.l 0)
 exact⟨rfl,d⟩
theorem zU(h:Heap)(x:RB)(e:Int)(ho:Bool)(L:List Pl)(va:Option Addr)(vc:Nat)(hr:Row h (.slice va L.length vc) L.length 4 (dr L))(hL:L.length ≤1099511627776)(u:Int)(hu0:0≤u)(hu:u≤1099511627776):Sat Tryz.prog 68 #[.agg (rc x e ho false (.slice va L.length vc)).toArray,.int .i64 u] h fun v h'=>∃c,v= .tuple #[.agg (rc x (max e u) ho false c).toArray,.int .i64 0]∧nf h h' 180 c L:=by
 have i:=Ext.refl h
 have b:Sep h.size h.size []:=Sep.nil _ _
 refine ag Tryz.func68 21 fun a m=>qS m<|tN 0 (pV h.size) ((rc x e ho false (.slice va L.length vc)).toArray) 95 fun A D r=> ?_
 replace b:=b.nw i.size r
 refine tN 1 (pV A.size) #[.int .i64 u] 3 fun B C p=> ?_
 replace i:=i.ext D
 replace b:=b.nw i.size p
 refine tN 2 (pV B.size) ((bZ).toArray) 95 fun G y q=> ?_
 replace i:=i.ext C
 replace b:=b.nw i.size q
 refine sT [(2,pV h.size),(3,pV A.size),(4,pV B.size)] fun a m=>cS<|cB 0<|qS m ?_
 replace p:=p.x y
 refine tO 0 0 p<|tX 1 (u<(0:Int))<|tO 3 0 p<|tX 4 ((1099511627776:Int)<u)<|sT [(6,.bool false)] fun a m=>cF 6 m<|qS m ?_
 replace r:=(r.x C).x y
 refine tO 1 37 r<|sT [(14,.bool false)] fun a m=>cF 14 m<|cN<|bK<|tK<|qS m ?_
 refine tR 0 r ?_
 replace i:=i.ext y
 refine tG 2 (qj _ x e ho false L va vc (hr.ext i) hL _ u p) ?_
 rintro _ z ⟨_,rfl,f,d,rfl,n,s,g⟩
 have t:=i.size
 have o:=b
 replace i:=i.ext g
 replace q:=q.x g
 replace b:=o.cons (x:=f.map (fun(x:Addr)=>x.block)) g.size t (fun k e=>⟨s k e,n.lt (by rw[ae];exact e)⟩)
 have j:Own z (.slice f L.length d) 180 L.length 4 (dr L):=n;clear n o t s g
 refine bt 3 (rc x (max e u) ho false (.slice f L.length d)) q fun E w F=> ?_
 replace q:=F
 refine sT [(5,.int .i64 0)] fun a m=>cR<|aA [.cell 4 95,.tmp 5] [.agg (rc x (max e u) ho false (.slice f L.length d)).toArray,.int .i64 0] (.tuple #[.agg (rc x (max e u) ho false (.slice f L.length d)).toArray,.int .i64 0]) rfl m ⟨⟨_,rfl,Loads.blk (vs:=rc x (max e u) ho false (.slice f L.length d)) (by kernel_rfl) q rfl⟩,rfl,trivial⟩ rfl ?_
 replace i:=i.grew w (b.l 1)
 replace j:=j.k w (b.ap 0 1)
 exact⟨_,rfl,⟨_,_,rfl,j,b.low 0 rfl,i⟩⟩
noncomputable def b69:Code:=Tryz.f69.body.getD .skip
theorem vw(h:Heap)(x:RB)(e:Int)(ho:Bool)(L:List Pl)(va:Option Addr)(vc:Nat)(on:Bool):Sat Tryz.prog 69 #[.agg (rc x e ho true (.slice va L.length vc)).toArray,.bool on] h fun v h'=>v= .tuple #[.agg (rc dF (0:Int) false false (.slice none 0 0)).toArray,.int .i64 213]∧Ext h h':=by
 have c:=Ext.refl h
 have b:Sep h.size h.size []:=Sep.nil _ _
 refine ag Tryz.func69 12 fun a d=>qS d<|tN 0 (pV h.size) ((rc x e ho true (.slice va L.length vc)).toArray) 95 fun j o f=> ?_
 replace b:=b.nw c.size f
 refine tN 1 (pV j.size) #[.bool on] 4 fun k m p=> ?_
 replace c:=c.ext o
 replace b:=b.nw c.size p
 refine tN 2 (pV k.size) ((bZ).toArray) 95 fun s n g=> ?_
 replace c:=c.ext m
 replace b:=b.nw c.size g
 refine sT [(2,pV h.size),(3,pV j.size),(4,pV k.size)] fun a d=>cS<|qS d ?_
 replace f:=(f.x m).x n
 refine tO 1 37 f<|sT [(7,.bool true)] fun a d=>cT 7 d<|qS d<|bt 1 (bZ) g fun q i r=> ?_
 replace g:=r
 refine sT [(5,.int .i64 213)] fun a d=>cR (yT ?_)
 refine aA [.cell 4 95,.tmp 5] [.agg (bZ).toArray,.int .i64 213] (.tuple #[.agg (bZ).toArray,.int .i64 213]) rfl d ⟨⟨_,rfl,Loads.blk (vs:=bZ) (by kernel_rfl) g rfl⟩,rfl,trivial⟩ rfl ?_
 replace c:=(c.ext n).grew i (b.l 0)
 exact⟨rfl,c⟩
theorem zV(h:Heap)(x:RB)(e:Int)(ho:Bool)(L:List Pl)(va:Option Addr)(vc:Nat)(hr:Row h (.slice va L.length vc) L.length 4 (dr L))(hL:L.length ≤1099511627776)(on:Bool):Sat Tryz.prog 69 #[.agg (rc x e ho false (.slice va L.length vc)).toArray,.bool on] h fun v h'=>∃c,v= .tuple #[.agg (rc x e on false c).toArray,.int .i64 0]∧nf h h' 180 c L:=by
 have i:=Ext.refl h
 have b:Sep h.size h.size []:=Sep.nil _ _
 refine ag Tryz.func69 12 fun a n=>qS n<|tN 0 (pV h.size) ((rc x e ho false (.slice va L.length vc)).toArray) 95 fun z C q=> ?_
 replace b:=b.nw i.size q
 refine tN 1 (pV z.size) #[.bool on] 4 fun A B u=> ?_
 replace i:=i.ext C
 replace b:=b.nw i.size u
 refine tN 2 (pV A.size) ((bZ).toArray) 95 fun F w p=> ?_
 replace i:=i.ext B
 replace b:=b.nw i.size p
 refine sT [(2,pV h.size),(3,pV z.size),(4,pV A.size)] fun a n=>cS<|qS n ?_
 replace q:=(q.x B).x w
 refine tO 1 37 q<|sT [(7,.bool false)] fun a n=>cF 7 n<|cN<|tK<|qS n<|tR 0 q ?_
 replace i:=i.ext w
 replace u:=u.x w
 refine tG 2 (qk _ x e ho false L va vc (hr.ext i) hL _ on u) ?_
 rintro _ y ⟨_,rfl,f,d,rfl,m,r,g⟩
 have s:=i.size
 have o:=b
 replace i:=i.ext g
 replace p:=p.x g
 replace b:=o.cons (x:=f.map (fun(x:Addr)=>x.block)) g.size s (fun k e=>⟨r k e,m.lt (by rw[ae];exact e)⟩)
 have j:Own y (.slice f L.length d) 180 L.length 4 (dr L):=m;clear m o s r g
 refine bt 3 (rc x e on false (.slice f L.length d)) p fun D t E=> ?_
 replace p:=E
 refine sT [(5,.int .i64 0)] fun a n=>cR<|aA [.cell 4 95,.tmp 5] [.agg (rc x e on false (.slice f L.length d)).toArray,.int .i64 0] (.tuple #[.agg (rc x e on false (.slice f L.length d)).toArray,.int .i64 0]) rfl n ⟨⟨_,rfl,Loads.blk (vs:=rc x e on false (.slice f L.length d)) (by kernel_rfl) p rfl⟩,rfl,trivial⟩ rfl ?_
 replace i:=i.grew t (b.l 1)
 replace j:=j.k t (b.ap 0 1)
 exact⟨_,rfl,⟨_,_,rfl,j,b.low 0 rfl,i⟩⟩
noncomputable def b70:Code:=Tryz.f70.body.getD .skip
theorem ql(h:Heap)(x:RB)(e:Int)(ho:Bool)(L:List Pl)(va:Option Addr)(vc:Nat)(u:Int):Sat Tryz.prog 70 #[.agg (rc x e ho true (.slice va L.length vc)).toArray,.int .i64 u] h fun v h'=>v= .tuple #[.agg (rc dF (0:Int) false false (.slice none 0 0)).toArray,.int .i64 213]∧Ext h h':=by
 have d:=Ext.refl h
 have b:Sep h.size h.size []:=Sep.nil _ _
 refine ag Tryz.func70 22 fun a c=>qS c<|tN 0 (pV h.size) ((rc x e ho true (.slice va L.length vc)).toArray) 95 fun i k f=> ?_
 replace b:=b.nw d.size f
 refine tN 1 (pV i.size) ((bZ).toArray) 95 fun o j g=> ?_
 replace d:=d.ext k
 replace b:=b.nw d.size g
 refine sT [(2,pV h.size),(4,pV i.size)] fun a c=>cS<|cB 0<|qS c ?_
 replace f:=f.x j
 refine tO 1 37 f<|sT [(6,.bool true)] fun a c=>cT 6 c<|qS c<|bt 1 (bZ) g fun p m n=> ?_
 replace g:=n
 refine sT [(5,.int .i64 213)] fun a c=>cR (yB (yT ?_))
 refine aA [.cell 4 95,.tmp 5] [.agg (bZ).toArray,.int .i64 213] (.tuple #[.agg (bZ).toArray,.int .i64 213]) rfl c ⟨⟨_,rfl,Loads.blk (vs:=bZ) (by kernel_rfl) g rfl⟩,rfl,trivial⟩ rfl ?_
 replace d:=(d.ext j).grew m (b.l 0)
 exact⟨rfl,d⟩
theorem qm(h:Heap)(x:RB)(e:Int) (L:List Pl)(va:Option Addr)(vc:Nat)(u:Int):Sat Tryz.prog 70 #[.agg (rc x e true false (.slice va L.length vc)).toArray,.int .i64 u] h fun v h'=>v= .tuple #[.agg (rc dF (0:Int) false false (.slice none 0 0)).toArray,.int .i64 214]∧Ext h h':=by
 have d:=Ext.refl h
 have b:Sep h.size h.size []:=Sep.nil _ _
 refine ag Tryz.func70 22 fun a c=>qS c<|tN 0 (pV h.size) ((rc x e true false (.slice va L.length vc)).toArray) 95 fun i k f=> ?_
 replace b:=b.nw d.size f
 refine tN 1 (pV i.size) ((bZ).toArray) 95 fun o j g=> ?_
 replace d:=d.ext k
 replace b:=b.nw d.size g
 refine sT [(2,pV h.size),(4,pV i.size)] fun a c=>cS<|cB 0<|qS c ?_
 replace f:=f.x j
 refine tO 1 37 f<|sT [(6,.bool false)] fun a c=>cF 6 c<|qS c<|tO 1 36 f<|sT [(10,.bool true)] fun a c=>cT 10 c ?_
 refine qS c<|bt 1 (bZ) g fun p m n=> ?_
 replace g:=n
 refine sT [(5,.int .i64 214)] fun a c=>cR (yB (yT ?_))
 refine aA [.cell 4 95,.tmp 5] [.agg (bZ).toArray,.int .i64 214] (.tuple #[.agg (bZ).toArray,.int .i64 214]) rfl c ⟨⟨_,rfl,Loads.blk (vs:=bZ) (by kernel_rfl) g rfl⟩,rfl,trivial⟩ rfl ?_
 replace d:=(d.ext j).grew m (b.l 0)
 exact⟨rfl,d⟩
theorem qn(h:Heap)(x:RB)(e:Int) (L:List Pl)(va:Option Addr)(vc:Nat)(u:Int)(hu:u<e):Sat Tryz.prog 70 #[.agg (rc x e false false (.slice va L.length vc)).toArray,.int .i64 u] h fun v h'=>v= .tuple #[.agg (rc dF (0:Int) false false (.slice none 0 0)).toArray,.int .i64 214]∧Ext h h':=by
 have d:=Ext.refl h
 have b:Sep h.size h.size []:=Sep.nil _ _
 refine ag Tryz.func70 22 fun a c=>qS c<|tN 0 (pV h.size) ((rc x e false false (.slice va L.length vc)).toArray) 95 fun i k f=> ?_
 replace b:=b.nw d.size f
 refine tN 1 (pV i.size) ((bZ).toArray) 95 fun o j g=> ?_
 replace d:=d.ext k
 replace b:=b.nw d.size g
 refine sT [(2,pV h.size),(4,pV i.size)] fun a c=>cS<|cB 0<|qS c ?_
 replace f:=f.x j
 refine tO 1 37 f<|sT [(6,.bool false)] fun a c=>cF 6 c<|qS c<|tO 1 36 f<|tO 4 35 f<|tT 6 (u<e) ?_
 refine sT [(10,.bool true)] fun a c=>cT 10 c<|qS c<|bt 1 (bZ) g fun p m n=> ?_
 replace g:=n
 refine sT [(5,.int .i64 214)] fun a c=>cR (yB (yT ?_))
 refine aA [.cell 4 95,.tmp 5] [.agg (bZ).toArray,.int .i64 214] (.tuple #[.agg (bZ).toArray,.int .i64 214]) rfl c ⟨⟨_,rfl,Loads.blk (vs:=bZ) (by kernel_rfl) g rfl⟩,rfl,trivial⟩ rfl ?_
 replace d:=(d.ext j).grew m (b.l 0)
 exact⟨rfl,d⟩
theorem xw(h:Heap)(x:RB)(e:Int) (L:List Pl)(va:Option Addr)(vc:Nat)(hr:Row h (.slice va L.length vc) L.length 4 (dr L))(hL:L.length ≤1099511627776)(u:Int)(hu:e≤u):Sat Tryz.prog 70 #[.agg (rc x e false false (.slice va L.length vc)).toArray,.int .i64 u] h fun v h'=>v= .tuple #[.agg (rc x e false true (.slice none 0 0)).toArray,.int .i64 0]∧Ext h h':=by
 have d:=Ext.refl h
 have b:Sep h.size h.size []:=Sep.nil _ _
 refine ag Tryz.func70 22 fun a c=>qS c<|tN 0 (pV h.size) ((rc x e false false (.slice va L.length vc)).toArray) 95 fun j n f=> ?_
 replace b:=b.nw d.size f
 refine tN 1 (pV j.size) ((bZ).toArray) 95 fun p k g=> ?_
 replace d:=d.ext n
 replace b:=b.nw d.size g
 refine sT [(2,pV h.size),(4,pV j.size)] fun a c=>cS<|cB 0<|qS c ?_
 replace f:=f.x k
 refine tO 1 37 f<|sT [(6,.bool false)] fun a c=>cF 6 c<|qS c<|tO 1 36 f<|tO 4 35 f<|tX 6 (u<e) ?_
 refine sT [(10,.bool false)] fun a c=>cF 10 c<|cN<|bK<|tK<|qS c<|tR 0 f ?_
 replace d:=d.ext k
 refine tG 1 (r_ _ x e false false L va vc (hr.ext d) hL) ?_
 rintro _ q ⟨rfl,m⟩
 replace g:=g.x m
 refine bt 2 (rc x e false true (.slice none 0 0)) g fun r i o=> ?_
 replace g:=o
 refine sT [(5,.int .i64 0)] fun a c=>cR<|aA [.cell 4 95,.tmp 5] [.agg (rc x e false true (.slice none 0 0)).toArray,.int .i64 0] (.tuple #[.agg (rc x e false true (.slice none 0 0)).toArray,.int .i64 0]) rfl c ⟨⟨_,rfl,Loads.blk (vs:=rc x e false true (.slice none 0 0)) (by kernel_rfl) g rfl⟩,rfl,trivial⟩ rfl ?_
 replace d:=(d.ext m).grew i (b.l 0)
 exact⟨rfl,d⟩
noncomputable def b64:Code:=Tryz.f64.body.getD .skip
theorem vx(h:Heap):Sat Tryz.prog 64 #[.slice none 0 0] h fun v h'=>∃ad cap,v= .slice ad 0 cap∧Own h' (.slice ad 0 cap) 5 0 1 []∧(∀k,ad.map (fun(x:Addr)=>x.block)=some k→h.size ≤k)∧Ext h h':=by
 refine ag Tryz.func64 8 fun a b=>qP [] b fun a b=>cS<|qP [(4,.bool true)] b fun a b=>cT 4 b<|qP [(2,.slice none 0 0)] b fun a b=>cR (yT ?_)
 exact rT 2 (.slice none 0 0) b<|⟨none,0,rfl,Own.nil _ _ _,(fun k e=>by cases e),Ext.refl h⟩
theorem sc(h:Heap)(l:List UInt8)(n:Nat)(aa:Addr)(vc:Nat)(hr:Row h (.slice (some aa) n vc) n 1 (l.map bv))(hn:n≤1099511627776):Sat Tryz.prog 64 #[.slice (some aa) n vc] h fun v h'=>∃ad cap,v= .slice ad n cap∧Own h' (.slice ad n cap) 5 n 1 (l.map bv)∧(∀k,ad.map (fun(x:Addr)=>x.block)=some k→h.size ≤k)∧Ext h h':=by
 have f:=Ext.refl h
 have c:Sep h.size h.size []:=Sep.nil _ _
 refine ag Tryz.func64 8 fun a d=>qP [] d fun a d=>cS<|qP [(4,.bool false)] d fun a d=>cF 4 d<|cN<|tK ?_
 refine qS d<|tN 0 (.slice (some ⟨h.size,0,none⟩) 0 0) #[] 5 fun m o j=> ?_
 replace c:=c.nw f.size j
 have b:Own m (.slice (some ⟨h.size,0,none⟩) 0 0) 5 ([]:List UInt8).length 1 (([]:List UInt8).map bv):=Own.empty 1 j
 replace c:Sep h.size m.size [(some ⟨h.size,0,none⟩:Option Addr).map (·.block)]:=c
 replace f:=f.ext o
 replace hr:=hr.ext o
 clear j
 refine tP 2 n 1 (l.map bv) b hr (aB _) (fun g e r b p i=> ?_)
 clear hr
 have q:=c
 replace c:=c.sa p 0 i b f.size;clear i
 refine sT [(2,.slice g n e)] fun a d=>cR<|rT 2 (.slice g n e) d ?_
 replace f:=f.grew p (q.l 0)
 exact⟨_,_,rfl,b,c.low 0 rfl,f⟩
theorem fq(h:Heap)(l:List UInt8)(n:Nat)(va:Option Addr)(vc:Nat)(hr:Row h (.slice va n vc) n 1 (l.map bv))(hn:n≤1099511627776):Sat Tryz.prog 64 #[.slice va n vc] h fun v h'=>∃ad cap,v= .slice ad n cap∧Own h' (.slice ad n cap) 5 n 1 (l.map bv)∧(∀k,ad.map (fun(x:Addr)=>x.block)=some k→h.size ≤k)∧Ext h h':=by
 cases va with
 | none =>
  rcases hr.2 with⟨e,e1⟩|⟨a,cap,e,_⟩
  ·simp only[Value.slice.injEq,true_and] at e
   obtain⟨rfl,rfl⟩:=e
   obtain rfl:l=[]:=List.eq_nil_of_length_eq_zero (by have:=hr.1;simpa using this)
   exact vx h
  ·cases e
 |some aa=>exact sc h l n aa vc hr hn
noncomputable def b44:Code:=Tryz.f44.body.getD .skip
theorem vy(h:Heap):Sat Tryz.prog 44 #[.slice none 0 0] h fun v h'=>∃ad cap,v= .slice ad 0 cap∧Own h' (.slice ad 0 cap) 32 0 1 []∧(∀k,ad.map (fun(x:Addr)=>x.block)=some k→h.size ≤k)∧Ext h h':=by
 refine ag Tryz.func44 8 fun a b=>qP [] b fun a b=>cS<|qP [(4,.bool true)] b fun a b=>cT 4 b<|qP [(2,.slice none 0 0)] b fun a b=>cR (yT ?_)
 exact rT 2 (.slice none 0 0) b<|⟨none,0,rfl,Own.nil _ _ _,(fun k e=>by cases e),Ext.refl h⟩
theorem sd(h:Heap)(l:List Value)(n:Nat)(aa:Addr)(vc:Nat)(hr:Row h (.slice (some aa) n vc) n 1 l)(hn:n≤1099511627776)(hone:∀u∈l,u.oneCell' =true):Sat Tryz.prog 44 #[.slice (some aa) n vc] h fun v h'=>∃ad cap,v= .slice ad n cap∧Own h' (.slice ad n cap) 32 n 1 l∧(∀k,ad.map (fun(x:Addr)=>x.block)=some k→h.size ≤k)∧Ext h h':=by
 have f:=Ext.refl h
 have c:Sep h.size h.size []:=Sep.nil _ _
 refine ag Tryz.func44 8 fun a d=>qP [] d fun a d=>cS<|qP [(4,.bool false)] d fun a d=>cF 4 d<|cN<|tK ?_
 refine qS d<|tN 0 (.slice (some ⟨h.size,0,none⟩) 0 0) #[] 32 fun m o j=> ?_
 replace c:=c.nw f.size j
 have b:Own m (.slice (some ⟨h.size,0,none⟩) 0 0) 32 ([]:List Value).length 1 ([]:List Value):=Own.empty 1 j
 replace c:Sep h.size m.size [(some ⟨h.size,0,none⟩:Option Addr).map (·.block)]:=c
 replace f:=f.ext o
 replace hr:=hr.ext o
 clear j
 refine tP 2 n 24 l b hr hone (fun g e r b p i=> ?_) (ys:=l)
 clear hr
 have q:=c
 replace c:=c.sa p 0 i b f.size;clear i
 refine sT [(2,.slice g n e)] fun a d=>cR<|rT 2 (.slice g n e) d ?_
 replace f:=f.grew p (q.l 0)
 exact⟨_,_,rfl,b,c.low 0 rfl,f⟩
theorem mj(h:Heap)(l:List Value)(n:Nat)(va:Option Addr)(vc:Nat)(hr:Row h (.slice va n vc) n 1 l)(hn:n≤1099511627776)(hone:∀u∈l,u.oneCell' =true):Sat Tryz.prog 44 #[.slice va n vc] h fun v h'=>∃ad cap,v= .slice ad n cap∧Own h' (.slice ad n cap) 32 n 1 l∧(∀k,ad.map (fun(x:Addr)=>x.block)=some k→h.size ≤k)∧Ext h h':=by
 cases va with
 | none =>
  rcases hr.2 with⟨e,e1⟩|⟨a,cap,e,_⟩
  ·simp only[Value.slice.injEq,true_and] at e
   obtain⟨rfl,rfl⟩:=e
   obtain rfl:l=[]:=List.eq_nil_of_length_eq_zero (by have:=hr.1;simpa using this)
   exact vy h
  ·cases e
 |some aa=>exact sd h l n aa vc hr hn hone
noncomputable def b66:Code:=Tryz.f66.body.getD .skip
theorem CU{P:Program}{ops:Array Oper}{base:Nat→Value}{vals:aQ}{i:Nat}{va:Option Addr}{n vc sz:Nat}(h:Heap)(hx:Bd P ops base vals i=some (va,n,vc,sz,none,some ((n:Nat):Int),some ((n:Nat):Int)))(hc:n≤vc):Go.ai.Calm P ops base vals i h (.slice va n n):=by
 have:=Go.ai.Calm.slice 0 n n hx (.inr ⟨rfl,hc,rfl⟩) (.inr rfl) (.inl ⟨rfl,rfl⟩) (Nat.zero_le _) (Nat.le_refl _) h
 simp only[Nat.zero_mul,Nat.sub_zero] at this
 have e:(if n=0 then va else va.map (fun(x:Addr)=>x.add 0))=va:=by
  have ha:∀x:Addr,x.add 0=x:=fun x=>by simp[Addr.add]
  split
  ·rfl
  ·cases va<;>simp[ha]
 rwa [e] at this
theorem xx(h:Heap)(n:Nat)(va:Option Addr)(vc:Nat)(hc:n≤vc):Sat Tryz.prog 66 #[.slice va n vc] h fun v h'=>v= .slice va n n∧h'=h:=by
 refine ag Tryz.func66 9 fun a b=>qP [] b fun a b=>qS b<|tC 5 (.slice va n n) ((fun h=>CU (sz:=1) h (by kernel_rfl) hc) _)<|sT [(2,.slice va n n)] fun a b=>cR<|rT 2 (.slice va n n) b ?_
 exact⟨rfl,rfl⟩
noncomputable def b98:Code:=Tryz.f98.body.getD .skip
theorem sf(h:Heap)(n m:Nat)(hn:n≤1099511627776):Sat Tryz.prog 98 #[.int .i64 ((n:Nat):Int),.int .i64 ((m:Nat):Int)] h fun v h'=>v= .bool (decide (n≤m))∧h'=h:=by
 refine ag Tryz.func98 12 fun a b=>qP [] b fun a b=>cS ?_
 rcases Nat.lt_or_ge m n with c|c
 ·refine rS b<|tT 1 ((0:Int)≤((n:Nat):Int))<|tX 5 (((n:Nat):Int)≤((m:Nat):Int))<|sE [(4,.bool false)] fun a b=>tK<|cR<|rT 4 (.bool false) b ?_
  exact⟨congrArg Value.bool (by simp;omega),rfl⟩
 ·refine rS b<|tT 1 ((0:Int)≤((n:Nat):Int))<|tT 5 (((n:Nat):Int)≤((m:Nat):Int))<|sE [(4,.bool true)] fun a b=>tK<|cR<|rT 4 (.bool true) b ?_
  exact⟨congrArg Value.bool (by simp;omega),rfl⟩
noncomputable def b62:Code:=Tryz.f62.body.getD .skip
theorem xy(c:UInt8):ku c=decide (97≤c.toNat ∧c.toNat ≤122∨48≤c.toNat ∧c.toNat ≤57∨c.toNat =45∨c.toNat =46):=by
 unfold ku
 by_cases h1:97≤c.toNat ∧c.toNat ≤122<;>by_cases h2:48≤c.toNat ∧c.toNat ≤57<;>by_cases h3:c.toNat =45<;>by_cases h4:c.toNat =46<;>simp_all<;>omega
theorem qo(h:Heap)(s:ByteArray)(hsz:s.size ≤9223372036854775807):Sat Tryz.prog 62 #[.string s] h fun v h'=>v= .bool (aK s)∧h'=h:=by
 refine ag Tryz.func62 44 fun a b=>qP [] b fun a b=>cS<|qP [(6,nV s.size),(7,.int .i64 0)] b fun a b=>cB 0<|cL (fun m a h'=>∃i:Nat,m=s.size - i∧(h'=h)∧(i≤s.size)∧((s.data.toList.take i).all ku=true)∧(Fr a 44 [(0,.string s),(6,.int .i64 ((s.size :Nat):Int)),(7,.int .i64 ((i:Nat):Int))])) (s.size - 0) ⟨0,rfl,rfl,(by omega),rfl,b.to⟩ ?_
 clear b a
 rintro m a p ⟨i,rfl,j,q,d,b⟩
 refine qP [(8,.bool (decide (((i:Nat):Int)<((s.size :Nat):Int))))] b fun a b=>cS<|cJ 8 b (fun n=> ?_) fun n=> ?_
 ·have o:i<s.size :=by omega
  obtain⟨c,l⟩:=w5 o
  have g:ku c=decide (97≤c.toNat ∧c.toNat ≤122∨48≤c.toNat ∧c.toNat ≤57∨c.toNat =45∨c.toNat =46):=xy c
  refine cN<|tK<|cS<|cB 1<|qP [(3,nV i)] b fun a b=>qS b<|tC 2 (.int .u8 (c.toNat :Int)) ((fun h=>Calm.strIdx (by kernel_rfl) l h) _) ?_
  refine sT [(4,.int .u8 (c.toNat :Int))] fun a b=>cS ?_
  rcases(by omega:(97≤c.toNat ∧c.toNat ≤122)∨(48≤c.toNat ∧c.toNat ≤57)∨c.toNat =45∨c.toNat =46∨(122<c.toNat)∨(57<c.toNat ∧c.toNat <97)∨(c.toNat <48∧c.toNat ≠45∧c.toNat ≠46)) with k|k|k|k|k|k|k
  ·have f:ku c=true:=by rw[g];simp<;>omega
   have e:=eI d l f
   refine rS b<|tX 1 ((c.toNat :Int)<(97:Int))<|tX 4 ((122:Int)<(c.toNat :Int))<|sE [(34,.bool false)] fun a b=>tK<|cF 34 b<|cN ?_
   refine bK<|tK<|rS b<|tA 0 i 1<|sE [(7,nV (i+1))] fun a b=> ?_
   show ∃m',m'<_∧_
   refine⟨_,?_,(i+1),rfl,j,(by omega),e,b.to⟩
   omega
  ·have f:ku c=true:=by rw[g];simp<;>omega
   have e:=eI d l f
   refine rS b<|tT 1 ((c.toNat :Int)<(97:Int))<|tX 8 ((c.toNat :Int)<(48:Int))<|tX 11 ((57:Int)<(c.toNat :Int))<|sE [(34,.bool false)] fun a b=>tK<|cF 34 b ?_
   refine cN<|bK<|tK<|rS b<|tA 0 i 1<|sE [(7,nV (i+1))] fun a b=> ?_
   show ∃m',m'<_∧_
   refine⟨_,?_,(i+1),rfl,j,(by omega),e,b.to⟩
   omega
  ·have f:ku c=true:=by rw[g];simp<;>omega
   have e:=eI d l f
   refine rS b<|tT 1 ((c.toNat :Int)<(97:Int))<|tT 8 ((c.toNat :Int)<(48:Int))<|uF 16 (c.toNat :Int) 45<|sE [(34,.bool false)] fun a b=>tK<|cF 34 b ?_
   refine cN<|bK<|tK<|rS b<|tA 0 i 1<|sE [(7,nV (i+1))] fun a b=> ?_
   show ∃m',m'<_∧_
   refine⟨_,?_,(i+1),rfl,j,(by omega),e,b.to⟩
   omega
  ·have f:ku c=true:=by rw[g];simp<;>omega
   have e:=eI d l f
   refine rS b<|tT 1 ((c.toNat :Int)<(97:Int))<|tT 8 ((c.toNat :Int)<(48:Int))<|uT 16 (c.toNat :Int) 45<|uF 20 (c.toNat :Int) 46<|sE [(34,.bool false)] fun a b=>tK ?_
   refine cF 34 b<|cN<|bK<|tK<|rS b<|tA 0 i 1<|sE [(7,nV (i+1))] fun a b=> ?_
   show ∃m',m'<_∧_
   refine⟨_,?_,(i+1),rfl,j,(by omega),e,b.to⟩
   omega
  ·have f:ku c=false:=by rw[g];simp<;>omega
   have hno:=ir l f
   refine rS b<|tX 1 ((c.toNat :Int)<(97:Int))<|tT 4 ((122:Int)<(c.toNat :Int))<|tX 8 ((c.toNat :Int)<(48:Int))<|tT 11 ((57:Int)<(c.toNat :Int))<|uT 16 (c.toNat :Int) 45<|uT 20 (c.toNat :Int) 46 ?_
   refine sE [(34,.bool true)] fun a b=>tK<|cT 34 b<|qP [(2,.bool false)] b fun a b=>cR (yB (yT (yT (yB (yT ?_)))))
   exact rT 2 (.bool false) b<|⟨congrArg Value.bool (by first|exact hno.symm | (unfold aK;rw[d];simp<;>omega)),j⟩
  ·have f:ku c=false:=by rw[g];simp<;>omega
   have hno:=ir l f
   refine rS b<|tT 1 ((c.toNat :Int)<(97:Int))<|tX 8 ((c.toNat :Int)<(48:Int))<|tT 11 ((57:Int)<(c.toNat :Int))<|uT 16 (c.toNat :Int) 45<|uT 20 (c.toNat :Int) 46<|sE [(34,.bool true)] fun a b=> ?_
   refine tK<|cT 34 b<|qP [(2,.bool false)] b fun a b=>cR (yB (yT (yT (yB (yT ?_)))))
   exact rT 2 (.bool false) b<|⟨congrArg Value.bool (by first|exact hno.symm | (unfold aK;rw[d];simp<;>omega)),j⟩
  ·have f:ku c=false:=by rw[g];simp<;>omega
   have hno:=ir l f
   refine rS b<|tT 1 ((c.toNat :Int)<(97:Int))<|tT 8 ((c.toNat :Int)<(48:Int))<|uT 16 (c.toNat :Int) 45<|uT 20 (c.toNat :Int) 46<|sE [(34,.bool true)] fun a b=>tK ?_
   refine cT 34 b<|qP [(2,.bool false)] b fun a b=>cR (yB (yT (yT (yB (yT ?_)))))
   exact rT 2 (.bool false) b<|⟨congrArg Value.bool (by first|exact hno.symm | (unfold aK;rw[d];simp<;>omega)),j⟩
 ·obtain rfl:i=s.size :=by omega
  rw[←fz,List.take_length] at d
  refine cX 0 (xT (xT (xB ?_)))
  refine tK<|cS ?_
  rcases(by omega:s.size =0∨(0<s.size ∧s.size ≤16)∨16<s.size) with k|k|k
  ·exact rS b<|tX 2 ((0:Int)<((s.size :Nat):Int))<|sE [(2,.bool false)] fun a b=>tK<|cR<|rT 2 (.bool false) b<|⟨congrArg Value.bool (by first|exact hno.symm | (unfold aK;rw[d];simp<;>omega)),j⟩
  ·refine rS b<|tT 2 ((0:Int)<((s.size :Nat):Int))<|tT 6 (((s.size :Nat):Int)≤(16:Int))<|sE [(2,.bool true)] fun a b=>tK<|cR<|rT 2 (.bool true) b ?_
   exact⟨congrArg Value.bool (by first|exact hno.symm | (unfold aK;rw[d];simp<;>omega)),j⟩
  ·refine rS b<|tT 2 ((0:Int)<((s.size :Nat):Int))<|tX 6 (((s.size :Nat):Int)≤(16:Int))<|sE [(2,.bool false)] fun a b=>tK<|cR<|rT 2 (.bool false) b ?_
   exact⟨congrArg Value.bool (by first|exact hno.symm | (unfold aK;rw[d];simp<;>omega)),j⟩
end Go.Proofs.YtegkejcglfgpmaaGreatDoor
end
section
namespace Go.ai
open Go Go.aL
section
variable {P:Program} {ops:Array Oper} {base:Nat→Value} {vals:aQ} {i:Nat} {h:Heap}
def ES (P : Program) (e : Operand → Value) (o : Oper) : Option (TypeId × ByteArray) :=
  match o.op with
  | .convert s d x => match e x, P.underlying s, P.underlying d with
    | .string b, some .string, some (.slice el) => match P.underlying el with
      |some (.int .u8)=>some (el,b)
      |_=>none
    |_,_,_=>none
  |_=>none
def D7(P:Program)(ops:Array Oper)(base:Nat→Value)(vals:aQ)(i:Nat):=(i_ ops base vals i).bind (ES P (env ops base vals i))
theorem Does.bytesOf{el:TypeId}{s:ByteArray}(hx:D7 P ops base vals i=some (el,s)):
    Does P ops base vals i h fun v' h'=>∃cap,v'= .slice (some ⟨h.size,0,none⟩) s.size cap∧Row h' (.slice (some ⟨h.size,0,none⟩) s.size cap) s.size 1 (s.data.toList.map bv)∧Ext h h':=by
  refine aO hx fun o ho w hw=> ?_
  subst hw
  unfold ES at ho
  cases hop:o.op with
  | convert a d x =>
    simp only[hop] at ho
    split at ho<;>first| (cases ho;done)|skip
    rename_i b BH h1 h2 h3
    cases h4:P.underlying BH with
    |none=>simp[h4] at ho
    | some de =>
      cases de<;>simp only[h4] at ho<;>first| (cases ho;done)|skip
      rename_i k
      cases k<;>simp only[Option.some.injEq,Prod.mk.injEq] at ho<;>first| (cases ho;done)|skip
      obtain⟨rfl,rfl⟩:=ho
      have hrun:(execOp (env ops base vals i) o).run P w= .ok (.value (.slice (some ⟨w.heap.size,0,none⟩) b.size (grownCap w b.size 0 BH))) (Lib.bytesWorld w BH b):=by
        unfold execOp
        simp[hop,h1,Lib.run_convert_string_bytes w a d BH b h2 h3 h4]
      rw[hrun]
      refine⟨⟨rfl,rfl,rfl⟩,_,rfl,⟨by rw[List.length_map,Nat.mul_one];rfl, .inr ⟨_,_,rfl,grownCap_ge _ _ _ _,fun j u hu=> ?_⟩⟩,⟨by rw[Lib.bytesWorld_size];omega,fun k hk _=>Lib.bytesWorld_at_old w BH b k hk⟩⟩
      rw[List.getElem?_map] at hu
      cases hj:b.data.toList[j]? with
      |none=>rw[hj] at hu;cases hu
      | some c =>
        rw[hj] at hu
        simp only[Option.map_some,Option.some.injEq] at hu
        have hlt:j<b.size :=(List.getElem?_eq_some_iff.1 hj).1
        rw[←eD (w:=Lib.bytesWorld w BH b) rfl,add_lit,Nat.zero_add]
        rw[Lib.bytesWorld_cell w BH b j hlt, ←hu,List.getD_eq_getElem?_getD,hj]
        rfl
  |_=>simp[hop] at ho
end
theorem CV{n:Nat}{o x:Option Nat}(h:x=o∨∃g,x=some g∧n≤g):∀i,x=some i→o=some i∨n≤i:=fun i e=>by
  rcases h with h|⟨g,h,k⟩
  · exact .inl (h▸e)
  · rw[h] at e;cases e;exact .inr k
end Go.ai
end
section
namespace Go.Proofs.YtegkejcglfgpmaaGreatDoor
open Go Go.ai Go.aL
noncomputable def b27:Code:=Tryz.f27.body.getD .skip
theorem nS(h:Heap)(s:ByteArray)(hsz:s.size ≤9223372036854775807):Sat Tryz.prog 27 #[.string s] h fun v h'=>v= .bool (aK s)∧h'=h:=by
 refine ag Tryz.func27 45 fun a b=>qP [] b fun a b=>cS<|cS ?_
 rcases(by omega:s.size <1∨16<s.size ∨(1≤s.size ∧s.size ≤16)) with k|k|k
 ·have g:aK s=false:=by unfold aK;rw[show(decide (0<s.size)&&decide (s.size ≤16))=false by simp<;>omega,Bool.and_false]
  refine rS b<|tT 2 (((s.size :Nat):Int)<(1:Int))<|sE [(12,.bool true)] fun a b=>tK<|cT 12 b<|qP [(2,.bool false)] b fun a b=>cR (yT ?_)
  exact rT 2 (.bool false) b<|⟨congrArg Value.bool g.symm,rfl⟩
 ·have g:aK s=false:=by unfold aK;rw[show(decide (0<s.size)&&decide (s.size ≤16))=false by simp<;>omega,Bool.and_false]
  refine rS b<|tX 2 (((s.size :Nat):Int)<(1:Int))<|tT 6 ((16:Int)<((s.size :Nat):Int))<|sE [(12,.bool true)] fun a b=>tK<|cT 12 b<|qP [(2,.bool false)] b fun a b=> ?_
  refine cR (yT ?_)
  exact rT 2 (.bool false) b<|⟨congrArg Value.bool g.symm,rfl⟩
 ·refine rS b<|tX 2 (((s.size :Nat):Int)<(1:Int))<|tX 6 ((16:Int)<((s.size :Nat):Int))<|sE [(12,.bool false)] fun a b=>tK<|cF 12 b<|cN ?_
  refine tK<|cS<|qP [(3,.int .i64 0)] b fun a b=>cB 0<|cL (fun m a h'=>∃i:Nat,m=s.size - i∧(h'=h)∧(i≤s.size)∧((s.data.toList.take i).all ku=true)∧(Fr a 45 [(0,.string s),(3,.int .i64 ((i:Nat):Int))])) (s.size - 0) ⟨0,rfl,rfl,(by omega),rfl,b.to⟩ ?_
  clear b a
  rintro m a q ⟨i,rfl,l,r,f,b⟩
  refine cS<|qP [(16,.bool (decide (((i:Nat):Int)<((s.size :Nat):Int))))] b fun a b=>cJ 16 b (fun o=> ?_) fun o=> ?_
  ·have p:i<s.size :=by omega
   obtain⟨c,n⟩:=w5 p
   have j:ku c=decide (97≤c.toNat ∧c.toNat ≤122∨48≤c.toNat ∧c.toNat ≤57∨c.toNat =45∨c.toNat =46):=xy c
   refine cN<|tK<|cS<|cB 1<|qS b<|tC 2 (.int .u8 (c.toNat :Int)) ((fun h=>Calm.strIdx (by kernel_rfl) n h) _)<|sT [(4,.int .u8 (c.toNat :Int))] fun a b=> ?_
   refine cS ?_
   rcases(by omega:(97≤c.toNat ∧c.toNat ≤122)∨(48≤c.toNat ∧c.toNat ≤57)∨c.toNat =45∨c.toNat =46∨(122<c.toNat)∨(57<c.toNat ∧c.toNat <97)∨(c.toNat <48∧c.toNat ≠45∧c.toNat ≠46)) with k|k|k|k|k|k|k
   ·have e:ku c=true:=by rw[j];simp<;>omega
    have d:=eI f n e
    refine rS b<|tT 1 ((97:Int)≤(c.toNat :Int))<|tT 4 ((c.toNat :Int)≤(122:Int))<|sE [(44,.bool false)] fun a b=>tK<|cF 44 b<|cN ?_
    refine bK<|tK<|rS b<|tA 1 i 1<|sE [(3,nV (i+1))] fun a b=> ?_
    show ∃m',m'<_∧_
    refine⟨_,?_,(i+1),rfl,l,(by omega),d,b.to⟩
    omega
   ·have e:ku c=true:=by rw[j];simp<;>omega
    have d:=eI f n e
    refine rS b<|tX 1 ((97:Int)≤(c.toNat :Int))<|tT 8 ((48:Int)≤(c.toNat :Int))<|tT 11 ((c.toNat :Int)≤(57:Int))<|sE [(44,.bool false)] fun a b=>tK<|cF 44 b ?_
    refine cN<|bK<|tK<|rS b<|tA 1 i 1<|sE [(3,nV (i+1))] fun a b=> ?_
    show ∃m',m'<_∧_
    refine⟨_,?_,(i+1),rfl,l,(by omega),d,b.to⟩
    omega
   ·have e:ku c=true:=by rw[j];simp<;>omega
    have d:=eI f n e
    refine rS b<|tX 1 ((97:Int)≤(c.toNat :Int))<|tX 8 ((48:Int)≤(c.toNat :Int))<|eT 16 (c.toNat :Int) 45<|sE [(44,.bool false)] fun a b=>tK<|cF 44 b ?_
    refine cN<|bK<|tK<|rS b<|tA 1 i 1<|sE [(3,nV (i+1))] fun a b=> ?_
    show ∃m',m'<_∧_
    refine⟨_,?_,(i+1),rfl,l,(by omega),d,b.to⟩
    omega
   ·have e:ku c=true:=by rw[j];simp<;>omega
    have d:=eI f n e
    refine rS b<|tX 1 ((97:Int)≤(c.toNat :Int))<|tX 8 ((48:Int)≤(c.toNat :Int))<|eF 16 (c.toNat :Int) 45<|eT 20 (c.toNat :Int) 46<|sE [(44,.bool false)] fun a b=>tK ?_
    refine cF 44 b<|cN<|bK<|tK<|rS b<|tA 1 i 1<|sE [(3,nV (i+1))] fun a b=> ?_
    show ∃m',m'<_∧_
    refine⟨_,?_,(i+1),rfl,l,(by omega),d,b.to⟩
    omega
   ·have e:ku c=false:=by rw[j];simp<;>omega
    have g:=ir n e
    refine rS b<|tT 1 ((97:Int)≤(c.toNat :Int))<|tX 4 ((c.toNat :Int)≤(122:Int))<|tT 8 ((48:Int)≤(c.toNat :Int))<|tX 11 ((c.toNat :Int)≤(57:Int))<|eF 16 (c.toNat :Int) 45<|eF 20 (c.toNat :Int) 46 ?_
    refine sE [(44,.bool true)] fun a b=>tK<|cT 44 b<|qP [(2,.bool false)] b fun a b=>cR (yB (yT (yT (yB (yT ?_)))))
    exact rT 2 (.bool false) b<|⟨congrArg Value.bool g.symm,l⟩
   ·have e:ku c=false:=by rw[j];simp<;>omega
    have g:=ir n e
    refine rS b<|tX 1 ((97:Int)≤(c.toNat :Int))<|tT 8 ((48:Int)≤(c.toNat :Int))<|tX 11 ((c.toNat :Int)≤(57:Int))<|eF 16 (c.toNat :Int) 45<|eF 20 (c.toNat :Int) 46<|sE [(44,.bool true)] fun a b=> ?_
    refine tK<|cT 44 b<|qP [(2,.bool false)] b fun a b=>cR (yB (yT (yT (yB (yT ?_)))))
    exact rT 2 (.bool false) b<|⟨congrArg Value.bool g.symm,l⟩
   ·have e:ku c=false:=by rw[j];simp<;>omega
    have g:=ir n e
    refine rS b<|tX 1 ((97:Int)≤(c.toNat :Int))<|tX 8 ((48:Int)≤(c.toNat :Int))<|eF 16 (c.toNat :Int) 45<|eF 20 (c.toNat :Int) 46<|sE [(44,.bool true)] fun a b=>tK ?_
    refine cT 44 b<|qP [(2,.bool false)] b fun a b=>cR (yB (yT (yT (yB (yT ?_)))))
    exact rT 2 (.bool false) b<|⟨congrArg Value.bool g.symm,l⟩
  ·obtain rfl:i=s.size :=by omega
   rw[←fz,List.take_length] at f
   refine cX 0 (xT (xT (xB ?_)))
   exact tK<|qP [(2,.bool true)] b fun a b=>cR<|rT 2 (.bool true) b<|⟨congrArg Value.bool (by unfold aK;rw[f];simp<;>omega),l⟩
noncomputable def b47:Code:=Tryz.f47.body.getD .skip
theorem si(h:Heap)(l:List UInt8)(n x:Nat)(va:Option Addr)(vc:Nat)(jP:Own h (.slice va n vc) 5 n 1 (l.map bv))(hn:n≤1099511627000):Sat Tryz.prog 47 #[.slice va n vc,.int .i64 ((x:Nat):Int),.int .i64 2] h fun v h'=>∃ad cap,v= .slice ad (n+1+1) cap∧Own h' (.slice ad (n+1+1) cap) 5 (n+1+1) 1 ((l++[UInt8.ofNat (x/2^8),UInt8.ofNat x]).map bv)∧(ad.map (fun(x:Addr)=>x.block)=va.map (fun(x:Addr)=>x.block)∨∃g,ad.map (fun(x:Addr)=>x.block)=some g∧h.size ≤g)∧Gr (fun k=>va.map (fun(x:Addr)=>x.block)=some k) h h':=by
 have f:=Gr.refl (fun k=>va.map (fun(x:Addr)=>x.block)=some k) h
 have b:va.map (fun(x:Addr)=>x.block)=va.map (fun(x:Addr)=>x.block)∨∃g,va.map (fun(x:Addr)=>x.block)=some g∧h.size ≤g:= .inl rfl
 refine ag Tryz.func47 23 fun a c=>qP [] c fun a c=>cS<|qP [(7,.int .i64 1)] c fun a c=>cB 0<|cU 3<|ar.step ?_
 refine cS<|qP [(11,.bool true)] c fun a c=>cT 11 c<|cN<|tK<|cS<|cB 1 ?_
 refine rS c<|t1 4 (.int .i64 ((x/2^8:Nat):Int)) (.int .i64 (Int.fdiv ((x:Nat):Int) (2^8))) (congrArg (Value.int .i64) (bM (x) 8))<|t1 5 (bv (UInt8.ofNat (x/2^8))) (.int .u8 (IntKind.u8.wrap ((x/2^8:Nat):Int))) (bn _)<|tN 6 (.slice (some ⟨h.size,0,none⟩) 1 1) #[bv (UInt8.ofNat (x/2^8))] 5 fun B t u=> ?_
 replace jP:=jP.ext t
 refine tP 7 (n+1) 1 ((l++[UInt8.ofNat (x/2^8)]).map bv) jP (Row.blk (n:=1) (sz:=1) (l:=[UInt8.ofNat (x/2^8)].map bv) u rfl) (aB _) (fun q j w jP y r=> ?_) (ys:=(([UInt8.ofNat (x/2^8)]).map bv))
 replace f:=f.ext t
 have d:=grown b r f.1
 replace f:=f.grew y (CV b)
 replace b:=d;clear d
 clear u
 refine sE [(0,.slice q (n+1) j)] fun a c=>bK<|tK<|rP [(7,.int .i64 0)] c fun a c=>tK (ar.step ?_)
 refine cS<|qP [(11,.bool true)] c fun a c=>cT 11 c<|cN<|tK<|cS<|cB 1 ?_
 refine rS c<|t1 4 (.int .i64 ((x/2^0:Nat):Int)) (.int .i64 (Int.fdiv ((x:Nat):Int) (2^0))) (congrArg (Value.int .i64) (bM (x) 0))<|t1 5 (bv (UInt8.ofNat (x/2^0))) (.int .u8 (IntKind.u8.wrap ((x/2^0:Nat):Int))) (bn _)<|tN 6 (.slice (some ⟨w.size,0,none⟩) 1 1) #[bv (UInt8.ofNat (x/2^0))] 5 fun z m o=> ?_
 replace jP:=jP.ext m
 refine tP 7 ((n+1)+1) 1 (((l++[UInt8.ofNat (x/2^8)])++[UInt8.ofNat (x/2^0)]).map bv) jP (Row.blk (n:=1) (sz:=1) (l:=[UInt8.ofNat (x/2^0)].map bv) o rfl) (aB _) (fun i e A jP s p=> ?_) (ys:=(([UInt8.ofNat (x/2^0)]).map bv))
 replace f:=f.ext m
 have d:=grown b p f.1
 replace f:=f.grew s (CV b)
 replace b:=d;clear d
 clear o
 refine sE [(0,.slice i ((n+1)+1) e)] fun a c=>bK<|tK<|rP [(7,.int .i64 (-1))] c fun a c=>tK (ar.step ?_)
 refine cS<|qP [(11,.bool false)] c fun a c=>cF 11 c<|cX 0 (xT (xT (xB ?_)))
 exact tK<|qP [(6,.slice i ((n+1)+1) e)] c fun a c=>cR<|rT 6 (.slice i ((n+1)+1) e) c<|⟨_,_,rfl,by simpa only[Nat.pow_zero,Nat.div_one,List.append_assoc,List.singleton_append] using jP,b,f⟩
theorem eu(h:Heap)(s:ByteArray)(hs:aK s=true):Sat Tryz.prog 27 #[.string s] h fun v h'=>v= .bool true∧h'=h:=hs▸nS h s (by have:=iu hs;omega)
theorem ml(h:Heap)(s:ByteArray)(hz:s.size ≤9223372036854775807)(hs:aK s=false):Sat Tryz.prog 27 #[.string s] h fun v h'=>v= .bool false∧h'=h:=hs▸nS h s hz
noncomputable def b28:Code:=Tryz.f28.body.getD .skip
theorem sj(h:Heap)(s:ByteArray)(n:Nat)(l:List UInt8)(hs:aK s=true)(hn:n≤512)(xz:l.length =32):Sat Tryz.prog 28 #[.string s,.int .i64 ((n:Nat):Int),.agg (l.map bv).toArray] h fun v h'=>∃ad cap,v= .tuple #[.slice ad (dH s n l).length cap,.int .i64 0]∧Own h' (.slice ad (dH s n l).length cap) 5 (dH s n l).length 1 ((dH s n l).map bv)∧(∀k,ad.map (fun(x:Addr)=>x.block)=some k→h.size ≤k)∧Ext h h':=by
 have O:=iu hs
 have P:=pO hs
 have d:=Ext.refl h
 have c:Sep h.size h.size []:=Sep.nil _ _
 refine ag Tryz.func28 33 fun a i=>qS i<|tN 0 (pV h.size) ((l.map bv).toArray) 39 fun F Q p=> ?_
 replace c:=c.nw d.size p
 refine sT [(5,pV h.size)] fun a i=>cS<|qS i<|tC 1 (.bool true) (Does.call (f:=27) (args:= #[.string s]) (by kernel_rfl) (eu _ s hs))<|tX 5 (((n:Nat):Int)<(0:Int))<|tX 9 ((512:Int)<((n:Nat):Int))<|sT [(19,.bool false)] fun a i=> ?_
 refine cF 19 i<|cN<|tK<|qS i<|t1 2 (bv (UInt8.ofNat s.size)) (.int .u8 (IntKind.u8.wrap ((s.size :Nat):Int))) (bn _)<|tN 3 (.slice (some ⟨F.size,0,none⟩) 1 1) #[bv (UInt8.ofNat s.size)] 5 fun L M G=> ?_
 replace d:=d.ext Q
 replace c:=c.nw d.size G
 have b:Own L (.slice (some ⟨F.size,0,none⟩) 1 1) 5 1 1 (([UInt8.ofNat s.size]).map bv):=Own.blk G rfl (by unfold maxLen;decide)
 replace c:Sep h.size L.size [(some ⟨F.size,0,none⟩:Option Addr).map (·.block),some (h.size)]:=c
 replace d:=d.ext M
 replace p:=p.x M
 clear G
 refine tF 5 (Does.bytesOf (el:=5) (s:=s) (by kernel_rfl)) ?_
 rintro _ U ⟨N,rfl,H,z⟩
 replace d:=d.ext z
 replace b:=b.ext z
 replace p:=p.x z
 replace c:=c.up z.size
 clear z
 refine tP 6 (1+s.size) 1 (([UInt8.ofNat s.size]++s.data.toList).map bv) b H (aB _) (fun I t R b u q=> ?_)
 have A:=c
 replace c:=c.sa u 0 q b d.size;clear q
 refine sT [(8,.slice I (1+s.size) t)] fun a i=>qS i<|tG 2 (si _ ([UInt8.ofNat s.size]++s.data.toList) (1+s.size) n _ _ b (by omega)) ?_
 rintro _ J ⟨j,w,rfl,m,B,E⟩
 replace d:=d.grew u (A.l 0)
 replace p:=p.y u (A.bp 1 0)
 have C:=d.size
 replace d:=Gr.dD d E (c.low 0 rfl)
 replace p:=E.blk p (fun e=>(c.bp 1 0) e.symm)
 replace c:Sep h.size J.size [j.map (·.block),some (h.size)]:=c.set E.1 C 0 (y:=j.map (fun(x:Addr)=>x.block)) rfl (B.imp id .inr) (fun k e=>m.lt (by rw[ae];exact e))
 clear b;have b:=m;clear m B E C
 refine sT [(8,.slice j (1+s.size +1+1) w)] fun a i=>qS i<|tP 2 (1+s.size +1+1+32) 1 (((([UInt8.ofNat s.size]++s.data.toList)++[UInt8.ofNat (n/2^8),UInt8.ofNat n])++l).map bv) b (hrow xz p) (aB _) (fun o g S b D r=> ?_)
 have K:=c
 replace c:=c.sa D 0 r b d.size;clear r
 refine sT [(6,.slice o (1+s.size +1+1+32) g),(7,.int .i64 0)] fun a i=>cR<|aA [.tmp 6,.tmp 7] [.slice o (1+s.size +1+1+32) g,.int .i64 0] (.tuple #[.slice o (1+s.size +1+1+32) g,.int .i64 0]) rfl i ⟨rfl,rfl,trivial⟩ rfl ?_
 have T:=jx s n xz
 rw[show 1+s.size +1+1+32=(dH s n l).length by omega] at b
 replace d:=d.grew D (K.l 0)
 exact⟨_,_,by rw[show 1+s.size +1+1+32=(dH s n l).length by omega],b,c.low 0 rfl,d⟩
noncomputable def b99:Code:=Tryz.f99.body.getD .skip
theorem Row.off{h:Heap}{b off n m:Nat}{cs:Array Value}{E:TypeId}{fr:Nat×Nat}{xs:List Value}(m1:h[b]? =some (.cells cs E fr))(hx:(cs.toList.drop off).take n=xs)(hl:xs.length =n)(hn:n≤m):Row h (.slice (some ⟨b,off,none⟩) n m) n 1 xs:=by
 refine⟨by rw[hl,Nat.mul_one],.inr ⟨_,m,rfl,hn,fun j u hu=> ?_⟩⟩
 rw[add_lit,an m1]
 rw[←hx,List.getElem?_take] at hu
 split at hu
 ·rw[List.getElem?_drop] at hu;simpa using hu
 ·cases hu
theorem sk(h:Heap)(l:List UInt8)(n x:Nat)(va:Option Addr)(vc:Nat)(hr:Row h (.slice va n vc) n 1 (l.map bv))(hn:n≤1099511627000):Sat Tryz.prog 99 #[.slice va n vc,.int .u64 ((x:Nat):Int),.int .i64 2] h fun v h'=>∃ad cap,v= .slice ad (n+2) cap∧Own h' (.slice ad (n+2) cap) 5 (n+2) 1 ((l++[UInt8.ofNat (x/2^8),UInt8.ofNat x]).map bv)∧(∀k,ad.map (fun(x:Addr)=>x.block)=some k→h.size ≤k)∧Ext h h':=by
 have g:=Ext.refl h
 have c:Sep h.size h.size []:=Sep.nil _ _
 refine ag Tryz.func99 36 fun a b=>qP [] b fun a b=>qS b<|tG 1 (fq _ l n _ _ (hr.ext g) (by omega)) ?_
 rintro _ A ⟨B,y,rfl,d,C,G⟩
 replace c:=c.co G C d g.size
 refine sT [(7,.slice B n y)] fun a b=>cS<|qP [(17,.bool false)] b fun a b=>cF 17 b<|cN<|tK<|qS b ?_
 refine tN 0 (pV A.size) #[.int .u8 0,.int .u8 0,.int .u8 0,.int .u8 0,.int .u8 0,.int .u8 0,.int .u8 0,.int .u8 0] 177 fun P H e=> ?_
 replace g:=g.ext G
 replace c:=c.nw g.size e
 refine sT [(8,pV A.size)] fun a b=>cS<|qP [(19,.int .i64 0)] b fun a b=>cB 0<|cU 9<|ar.step <|qP [(20,.bool true)] b fun a b=> ?_
 refine cS<|cT 20 b<|cN<|tK<|cS<|cB 1<|qP [(9,.int .i64 0)] b fun a b=> ?_
 refine rS b<|t1 5 (.int .u64 ((x/2^56:Nat):Int)) (.int .u64 (Int.fdiv ((x:Nat):Int) (2^56))) (congrArg (Value.int .u64) (bM (x) 56))<|t1 6 (bv (UInt8.ofNat (x/2^56))) (.int .u8 (IntKind.u8.wrap ((x/2^56:Nat):Int))) (bn _)<|tV 8 0 [bv (UInt8.ofNat (x/2^56))] [bv (UInt8.ofNat (x/2^56)),.int .u8 0,.int .u8 0,.int .u8 0,.int .u8 0,.int .u8 0,.int .u8 0,.int .u8 0] e fun Q o f=> ?_
 replace e:=f
 refine sE [] fun a b=>bK<|tK<|rP [(19,.int .i64 1)] b fun a b=>tK (ar.step ?_)
 refine qP [(20,.bool true)] b fun a b=>cS<|cT 20 b<|cN<|tK<|cS<|cB 1 ?_
 refine qP [(9,.int .i64 1)] b fun a b=>rS b<|t1 5 (.int .u64 ((x/2^48:Nat):Int)) (.int .u64 (Int.fdiv ((x:Nat):Int) (2^48))) (congrArg (Value.int .u64) (bM (x) 48))<|t1 6 (bv (UInt8.ofNat (x/2^48))) (.int .u8 (IntKind.u8.wrap ((x/2^48:Nat):Int))) (bn _)<|tV 8 1 [bv (UInt8.ofNat (x/2^48))] [bv (UInt8.ofNat (x/2^56)),bv (UInt8.ofNat (x/2^48)),.int .u8 0,.int .u8 0,.int .u8 0,.int .u8 0,.int .u8 0,.int .u8 0] e fun I p f=> ?_
 replace e:=f
 refine sE [] fun a b=>bK<|tK<|rP [(19,.int .i64 2)] b fun a b=>tK (ar.step ?_)
 refine qP [(20,.bool true)] b fun a b=>cS<|cT 20 b<|cN<|tK<|cS<|cB 1 ?_
 refine qP [(9,.int .i64 2)] b fun a b=>rS b<|t1 5 (.int .u64 ((x/2^40:Nat):Int)) (.int .u64 (Int.fdiv ((x:Nat):Int) (2^40))) (congrArg (Value.int .u64) (bM (x) 40))<|t1 6 (bv (UInt8.ofNat (x/2^40))) (.int .u8 (IntKind.u8.wrap ((x/2^40:Nat):Int))) (bn _)<|tV 8 2 [bv (UInt8.ofNat (x/2^40))] [bv (UInt8.ofNat (x/2^56)),bv (UInt8.ofNat (x/2^48)),bv (UInt8.ofNat (x/2^40)),.int .u8 0,.int .u8 0,.int .u8 0,.int .u8 0,.int .u8 0] e fun J q f=> ?_
 replace e:=f
 refine sE [] fun a b=>bK<|tK<|rP [(19,.int .i64 3)] b fun a b=>tK (ar.step ?_)
 refine qP [(20,.bool true)] b fun a b=>cS<|cT 20 b<|cN<|tK<|cS<|cB 1 ?_
 refine qP [(9,.int .i64 3)] b fun a b=>rS b<|t1 5 (.int .u64 ((x/2^32:Nat):Int)) (.int .u64 (Int.fdiv ((x:Nat):Int) (2^32))) (congrArg (Value.int .u64) (bM (x) 32))<|t1 6 (bv (UInt8.ofNat (x/2^32))) (.int .u8 (IntKind.u8.wrap ((x/2^32:Nat):Int))) (bn _)<|tV 8 3 [bv (UInt8.ofNat (x/2^32))] [bv (UInt8.ofNat (x/2^56)),bv (UInt8.ofNat (x/2^48)),bv (UInt8.ofNat (x/2^40)),bv (UInt8.ofNat (x/2^32)),.int .u8 0,.int .u8 0,.int .u8 0,.int .u8 0] e fun K r f=> ?_
 replace e:=f
 refine sE [] fun a b=>bK<|tK<|rP [(19,.int .i64 4)] b fun a b=>tK (ar.step ?_)
 refine qP [(20,.bool true)] b fun a b=>cS<|cT 20 b<|cN<|tK<|cS<|cB 1 ?_
 refine qP [(9,.int .i64 4)] b fun a b=>rS b<|t1 5 (.int .u64 ((x/2^24:Nat):Int)) (.int .u64 (Int.fdiv ((x:Nat):Int) (2^24))) (congrArg (Value.int .u64) (bM (x) 24))<|t1 6 (bv (UInt8.ofNat (x/2^24))) (.int .u8 (IntKind.u8.wrap ((x/2^24:Nat):Int))) (bn _)<|tV 8 4 [bv (UInt8.ofNat (x/2^24))] [bv (UInt8.ofNat (x/2^56)),bv (UInt8.ofNat (x/2^48)),bv (UInt8.ofNat (x/2^40)),bv (UInt8.ofNat (x/2^32)),bv (UInt8.ofNat (x/2^24)),.int .u8 0,.int .u8 0,.int .u8 0] e fun L s f=> ?_
 replace e:=f
 refine sE [] fun a b=>bK<|tK<|rP [(19,.int .i64 5)] b fun a b=>tK (ar.step ?_)
 refine qP [(20,.bool true)] b fun a b=>cS<|cT 20 b<|cN<|tK<|cS<|cB 1 ?_
 refine qP [(9,.int .i64 5)] b fun a b=>rS b<|t1 5 (.int .u64 ((x/2^16:Nat):Int)) (.int .u64 (Int.fdiv ((x:Nat):Int) (2^16))) (congrArg (Value.int .u64) (bM (x) 16))<|t1 6 (bv (UInt8.ofNat (x/2^16))) (.int .u8 (IntKind.u8.wrap ((x/2^16:Nat):Int))) (bn _)<|tV 8 5 [bv (UInt8.ofNat (x/2^16))] [bv (UInt8.ofNat (x/2^56)),bv (UInt8.ofNat (x/2^48)),bv (UInt8.ofNat (x/2^40)),bv (UInt8.ofNat (x/2^32)),bv (UInt8.ofNat (x/2^24)),bv (UInt8.ofNat (x/2^16)),.int .u8 0,.int .u8 0] e fun M t f=> ?_
 replace e:=f
 refine sE [] fun a b=>bK<|tK<|rP [(19,.int .i64 6)] b fun a b=>tK (ar.step ?_)
 refine qP [(20,.bool true)] b fun a b=>cS<|cT 20 b<|cN<|tK<|cS<|cB 1 ?_
 refine qP [(9,.int .i64 6)] b fun a b=>rS b<|t1 5 (.int .u64 ((x/2^8:Nat):Int)) (.int .u64 (Int.fdiv ((x:Nat):Int) (2^8))) (congrArg (Value.int .u64) (bM (x) 8))<|t1 6 (bv (UInt8.ofNat (x/2^8))) (.int .u8 (IntKind.u8.wrap ((x/2^8:Nat):Int))) (bn _)<|tV 8 6 [bv (UInt8.ofNat (x/2^8))] [bv (UInt8.ofNat (x/2^56)),bv (UInt8.ofNat (x/2^48)),bv (UInt8.ofNat (x/2^40)),bv (UInt8.ofNat (x/2^32)),bv (UInt8.ofNat (x/2^24)),bv (UInt8.ofNat (x/2^16)),bv (UInt8.ofNat (x/2^8)),.int .u8 0] e fun N u f=> ?_
 replace e:=f
 refine sE [] fun a b=>bK<|tK<|rP [(19,.int .i64 7)] b fun a b=>tK (ar.step ?_)
 refine qP [(20,.bool true)] b fun a b=>cS<|cT 20 b<|cN<|tK<|cS<|cB 1 ?_
 refine qP [(9,.int .i64 7)] b fun a b=>rS b<|t1 5 (.int .u64 ((x/2^0:Nat):Int)) (.int .u64 (Int.fdiv ((x:Nat):Int) (2^0))) (congrArg (Value.int .u64) (bM (x) 0))<|t1 6 (bv (UInt8.ofNat (x/2^0))) (.int .u8 (IntKind.u8.wrap ((x/2^0:Nat):Int))) (bn _)<|tV 8 7 [bv (UInt8.ofNat (x/2^0))] [bv (UInt8.ofNat (x/2^56)),bv (UInt8.ofNat (x/2^48)),bv (UInt8.ofNat (x/2^40)),bv (UInt8.ofNat (x/2^32)),bv (UInt8.ofNat (x/2^24)),bv (UInt8.ofNat (x/2^16)),bv (UInt8.ofNat (x/2^8)),bv (UInt8.ofNat (x/2^0))] e fun D w f=> ?_
 replace e:=f
 refine sE [] fun a b=>bK<|tK<|rP [(19,.int .i64 8)] b fun a b=>tK (ar.step ?_)
 refine qP [(20,.bool false)] b fun a b=>cS<|cF 20 b<|cX 0 (xT (xT (xB ?_)))
 refine tK<|qS b ?_
 have E:Row D (.slice (some ⟨A.size,6,none⟩) 2 2) 2 1 (([UInt8.ofNat (x/2^8),UInt8.ofNat (x/2^0)]:List UInt8).map bv):=Row.off e (by rfl) rfl (Nat.le_refl _)
 replace d:=((((((((d.ext H).k o (c.ap 1 0)).k p (c.ap 1 0)).k q (c.ap 1 0)).k r (c.ap 1 0)).k s (c.ap 1 0)).k t (c.ap 1 0)).k u (c.ap 1 0)).k w (c.ap 1 0)
 refine tP 4 (n+2) 1 ((l++[UInt8.ofNat (x/2^8),UInt8.ofNat (x/2^0)]).map bv) d E (aB _) (fun j i O d z m=> ?_) (ys:=(([UInt8.ofNat (x/2^8),UInt8.ofNat (x/2^0)]).map bv))
 replace g:=((((((((g.ext H).grew o (c.l 0)).grew p (c.l 0)).grew q (c.l 0)).grew r (c.l 0)).grew s (c.l 0)).grew t (c.l 0)).grew u (c.l 0)).grew w (c.l 0)
 replace c:=(((((((c.up o.size).up p.size).up q.size).up r.size).up s.size).up t.size).up u.size).up w.size
 have F:=c
 replace c:=c.sa z 1 m d g.size;clear m
 refine sT [(6,.slice j (n+2) i)] fun a b=>cR<|rT 6 (.slice j (n+2) i) b ?_
 replace g:=g.grew z (F.l 1)
 exact⟨_,_,rfl,by simpa only[Nat.pow_zero,Nat.div_one] using d,c.low 1 rfl,g⟩
theorem gY(h:Heap)(s:ByteArray)(hs:aK s=true):Sat Tryz.prog 62 #[.string s] h fun v h'=>v= .bool true∧h'=h:=hs▸qo h s (by have:=iu hs;omega)
theorem jQ(h:Heap)(s:ByteArray)(hz:s.size ≤9223372036854775807)(hs:aK s=false):Sat Tryz.prog 62 #[.string s] h fun v h'=>v= .bool false∧h'=h:=hs▸qo h s hz
theorem sn(h:Heap)(n m:Nat)(hm:m≤1099511627776)(hn:n≤m):Sat Tryz.prog 98 #[.int .i64 ((n:Nat):Int),.int .i64 ((m:Nat):Int)] h fun v h'=>v= .bool true∧h'=h:=(decide_eq_true hn)▸sf h n m (by omega)
noncomputable def b65:Code:=Tryz.f65.body.getD .skip
theorem vz(h:Heap)(s:ByteArray)(n:Nat)(l:List UInt8)(hs:aK s=true)(hn:n≤512)(xz:l.length =32):Sat Tryz.prog 65 #[.string s,.int .i64 ((n:Nat):Int),.agg (l.map bv).toArray] h fun v h'=>∃ad cap,v= .tuple #[.slice ad (dH s n l).length cap,.int .i64 0]∧Own h' (.slice ad (dH s n l).length cap) 5 (dH s n l).length 1 ((dH s n l).map bv)∧(∀k,ad.map (fun(x:Addr)=>x.block)=some k→h.size ≤k)∧Ext h h':=by
 have K:=iu hs
 have L:=pO hs
 have d:=Ext.refl h
 have c:Sep h.size h.size []:=Sep.nil _ _
 refine ag Tryz.func65 29 fun a m=>qS m<|tN 0 (pV h.size) ((l.map bv).toArray) 39 fun M N o=> ?_
 replace c:=c.nw d.size o
 refine sT [(5,pV h.size)] fun a m=>cS<|qS m<|tC 1 (.bool true) (Does.call (f:=62) (args:= #[.string s]) (by kernel_rfl) (gY _ s hs))<|tC 5 (.bool true) (Does.call (f:=98) (args:= #[nV n,.int .i64 512]) (by kernel_rfl) (sn _ n 512 (by decide) (by omega)))<|sT [(16,.bool false)] fun a m=>cF 16 m ?_
 refine cN<|tK<|qS m<|t1 2 (bv (UInt8.ofNat s.size)) (.int .u8 (IntKind.u8.wrap ((s.size :Nat):Int))) (bn _)<|tN 3 (.slice (some ⟨M.size,0,none⟩) 1 1) #[bv (UInt8.ofNat s.size)] 5 fun S H I=> ?_
 replace d:=d.ext N
 replace c:=c.nw d.size I
 refine tF 5 (Does.uS (t:=32) (u:=9) (E:=5) (n:=1) (xs:=([UInt8.ofNat s.size]:List UInt8).map bv) (by kernel_rfl) (by kernel_rfl) (by kernel_rfl) (Row.blk I rfl) (by omega) (by omega)) ?_
 rintro _ O ⟨z,A,rfl,BI,J,g⟩
 replace d:=d.ext H
 have B:=d.size
 have p:=c
 replace o:=o.x H
 replace d:=d.ext g
 replace o:=o.x g
 replace c:=p.cons (x:=some z.block) g.size B (fun k e=>by cases e;exact⟨Nat.le_of_eq J.symm,BI.lt (by rfl)⟩)
 have r:Own O (.slice (some z) (1+s.size) A) 5 (1+s.size) 1 (([UInt8.ofNat s.size]++s.data.toList).map bv):=by rw[List.map_append];exact BI
 clear BI p B J g
 refine t1 7 (.int .u64 ((n:Nat):Int)) (.int .u64 (IntKind.u64.wrap ((n:Nat):Int))) (congrArg (Value.int .u64) (mW (by omega)))<|tG 8 (sk _ ([UInt8.ofNat s.size]++s.data.toList) (1+s.size) n _ _ r.row (by omega)) ?_
 rintro _ P ⟨C,w,rfl,b,D,y⟩
 replace c:=c.co y D b d.size
 refine sT [(8,.slice C (1+s.size +2) w)] fun a m=>qS m ?_
 replace o:=o.x y
 refine tP 2 (1+s.size +2+32) 1 (((([UInt8.ofNat s.size]++s.data.toList)++[UInt8.ofNat (n/2^8),UInt8.ofNat n])++l).map bv) b (hrow xz o) (aB _) (fun j i Q b F q=> ?_)
 replace d:=d.ext y
 have G:=c
 replace c:=c.sa F 0 q b d.size;clear q
 refine sT [(6,.slice j (1+s.size +2+32) i),(7,.int .i64 0)] fun a m=>cR<|aA [.tmp 6,.tmp 7] [.slice j (1+s.size +2+32) i,.int .i64 0] (.tuple #[.slice j (1+s.size +2+32) i,.int .i64 0]) rfl m ⟨rfl,rfl,trivial⟩ rfl ?_
 have R:=jx s n xz
 rw[show 1+s.size +2+32=(dH s n l).length by omega] at b
 replace d:=d.grew F (G.l 0)
 exact⟨_,_,by rw[show 1+s.size +2+32=(dH s n l).length by omega],b,c.low 0 rfl,d⟩
noncomputable def b67:Code:=Tryz.f67.body.getD .skip
theorem ui{W:Nat→Prop}(h:Heap)(mb mp:Nat)(M:Md)(L:List bW)(ck:Nat)(ea:Option Addr)(ec:Nat)(es:List Value)(md:bJ W h mb mp M L ck ea ec es)(s:ByteArray)(hsz:s.size ≤9223372036854775807)(hok:aK s=false):Sat Tryz.prog 67 #[.pointer (some ⟨mb,0,none⟩),.string s] h fun v h'=>v= .tuple #[.agg (dn dF (0:Int) false false (.slice none 0 0) (.slice none 0 0)).toArray,.int .i64 210]∧Ext h h':=by
 have hm:=md.hm
 have hp:=md.hp
 have g:=Ext.refl h
 have c:Sep h.size h.size []:=Sep.nil _ _
 refine ag Tryz.func67 27 fun a d=>qS d<|tN 0 (pV h.size) ((dj (.slice none 0 0)).toArray) 101 fun p w i=> ?_
 replace c:=c.nw g.size i
 refine sT [(4,pV h.size)] fun a d=>cS ?_
 rcases md.find s with⟨I,q⟩|⟨A,x,B,o,rfl,J,I,K⟩
 ·refine rS d ?_
  replace g:=g.ext w
  refine tO 3 0 (g.blk hm)<|tC 5 (.tuple #[.agg (dj (.slice none 0 0)).toArray,.bool false]) (oK (t:=81) 9 101 (by kernel_rfl) (by kernel_rfl) (by kernel_rfl) (.agg (dj (.slice none 0 0)).toArray) (by kernel_rfl) (g.blk hp) q)<|tN 9 (pV p.size) ((dj (.slice none 0 0)).toArray) 101 fun S z C=> ?_
  replace c:=c.nw g.size C
  refine bt 10 (dj (.slice none 0 0)) C fun T D j=>sE [(6,pV p.size),(7,.bool false)] fun a d=>tK<|cS<|cB 0<|qS d<|tC 1 (.bool false) (Does.call (f:=62) (args:= #[.string s]) (by kernel_rfl) (jQ _ s hsz hok)) ?_
  refine sT [(17,.bool true)] fun a d=>cT 17 d<|qS d ?_
  replace i:=(i.x z).y D (c.bp 1 0)
  refine bt 1 (dj (.slice none 0 0)) i fun U r j=> ?_
  replace i:=j
  refine sT [(5,.int .i64 210)] fun a d=>cR (yB (yT ?_))
  refine aA [.cell 4 101,.tmp 5] [.agg (dj (.slice none 0 0)).toArray,.int .i64 210] (.tuple #[.agg (dj (.slice none 0 0)).toArray,.int .i64 210]) rfl d ⟨⟨_,rfl,Loads.blk (vs:=dj (.slice none 0 0)) (by kernel_rfl) i rfl⟩,rfl,trivial⟩ rfl ?_
  replace g:=((g.ext z).grew D (c.l 0)).grew r (c.l 1)
  exact⟨rfl,g⟩
 ·obtain⟨N,O,E,F,G,H,hv,V,X⟩:=K
  refine rS d ?_
  replace g:=g.ext w
  refine tO 3 0 (g.blk hm)<|tC 5 (.tuple #[.agg (dn o.b o.e o.ho o.go (.slice E 0 F) (.slice G o.dt.length H)).toArray,.bool true]) (iv (t:=81) 9 101 (by kernel_rfl) (by kernel_rfl) (by kernel_rfl) (.agg (dj (.slice none 0 0)).toArray) (by kernel_rfl) (g.blk hp) (List.mem_append_right _ (List.mem_cons_self ..)) J md.nd hv)<|tN 9 (pV p.size) ((dj (.slice none 0 0)).toArray) 101 fun P k m=> ?_
  replace c:=c.nw g.size m
  refine bt 10 (dn o.b o.e o.ho o.go (.slice E 0 F) (.slice G o.dt.length H)) m fun Q n j=>sE [(6,pV p.size),(7,.bool true)] fun a d=>tK<|cS<|cB 0<|qS d<|tC 1 (.bool false) (Does.call (f:=62) (args:= #[.string s]) (by kernel_rfl) (jQ _ s hsz hok)) ?_
  refine sT [(17,.bool true)] fun a d=>cT 17 d<|qS d ?_
  replace i:=(i.x k).y n (c.bp 1 0)
  refine bt 1 (dj (.slice none 0 0)) i fun R u j=> ?_
  replace i:=j
  refine sT [(5,.int .i64 210)] fun a d=>cR (yB (yT ?_))
  refine aA [.cell 4 101,.tmp 5] [.agg (dj (.slice none 0 0)).toArray,.int .i64 210] (.tuple #[.agg (dj (.slice none 0 0)).toArray,.int .i64 210]) rfl d ⟨⟨_,rfl,Loads.blk (vs:=dj (.slice none 0 0)) (by kernel_rfl) i rfl⟩,rfl,trivial⟩ rfl ?_
  replace g:=((g.ext k).grew n (c.l 0)).grew u (c.l 1)
  exact⟨rfl,g⟩
theorem nT{W:Nat→Prop}(h:Heap)(mb mp:Nat)(M:Md)(L:List bW)(ck:Nat)(ea:Option Addr)(ec:Nat)(es:List Value)(md:bJ W h mb mp M L ck ea ec es)(s:ByteArray)(hno:∀x∈L,x.1 ≠s)(hok:aK s=true):Sat Tryz.prog 67 #[.pointer (some ⟨mb,0,none⟩),.string s] h fun v h'=>v= .tuple #[.agg (dn dF (0:Int) false false (.slice none 0 0) (.slice none 0 0)).toArray,.int .i64 211]∧Ext h h':=by
 have hm:=md.hm
 have hp:=md.hp
 have d:=Ext.refl h
 have b:Sep h.size h.size []:=Sep.nil _ _
 refine ag Tryz.func67 27 fun a c=>qS c<|tN 0 (pV h.size) ((dj (.slice none 0 0)).toArray) 101 fun i o e=> ?_
 replace b:=b.nw d.size e
 refine sT [(4,pV h.size)] fun a c=>qS c ?_
 replace d:=d.ext o
 refine tO 3 0 (d.blk hm)<|tC 5 (.tuple #[.agg (dj (.slice none 0 0)).toArray,.bool false]) (oK (t:=81) 9 101 (by kernel_rfl) (by kernel_rfl) (by kernel_rfl) (.agg (dj (.slice none 0 0)).toArray) (by kernel_rfl) (d.blk hp) hno)<|tN 9 (pV i.size) ((dj (.slice none 0 0)).toArray) 101 fun p j k=> ?_
 replace b:=b.nw d.size k
 refine bt 10 (dj (.slice none 0 0)) k fun q m n=>sT [(6,pV i.size),(7,.bool false)] fun a c=>cS<|cB 0<|qS c<|tC 1 (.bool true) (Does.call (f:=62) (args:= #[.string s]) (by kernel_rfl) (gY _ s hok))<|sT [(17,.bool false)] fun a c=> ?_
 refine cF 17 c<|qP [(22,.bool true)] c fun a c=>cT 22 c<|qS c ?_
 replace e:=(e.x j).y m (b.bp 1 0)
 refine bt 1 (dj (.slice none 0 0)) e fun r g n=> ?_
 replace e:=n
 refine sT [(5,.int .i64 211)] fun a c=>cR (yB (yT ?_))
 refine aA [.cell 4 101,.tmp 5] [.agg (dj (.slice none 0 0)).toArray,.int .i64 211] (.tuple #[.agg (dj (.slice none 0 0)).toArray,.int .i64 211]) rfl c ⟨⟨_,rfl,Loads.blk (vs:=dj (.slice none 0 0)) (by kernel_rfl) e rfl⟩,rfl,trivial⟩ rfl ?_
 replace d:=((d.ext j).grew m (b.l 0)).grew g (b.l 1)
 exact⟨rfl,d⟩
theorem qp{W:Nat→Prop}(h:Heap)(mb mp:Nat)(M:Md)(L:List bW)(ck:Nat)(ea:Option Addr)(ec:Nat)(es:List Value)(md:bJ W h mb mp M L ck ea ec es)(s:ByteArray)(x:bW)(hx:x∈L)(hs:x.1 =s)(o:Ob)(ca:Option Addr)(cc:Nat)(ba:Option Addr)(bc:Nat)(hv:x.2.1 =CG o (.slice ca 0 cc) (.slice ba o.dt.length bc))(hok:aK s=true):Sat Tryz.prog 67 #[.pointer (some ⟨mb,0,none⟩),.string s] h fun v h'=>v= .tuple #[.agg (dn o.b o.e o.ho o.go (.slice ca 0 cc) (.slice ba o.dt.length bc)).toArray,.int .i64 0]∧Ext h h':=by
 have hm:=md.hm
 have hp:=md.hp
 have g:=Ext.refl h
 have c:Sep h.size h.size []:=Sep.nil _ _
 refine ag Tryz.func67 27 fun a d=>qS d<|tN 0 (pV h.size) ((dj (.slice none 0 0)).toArray) 101 fun n r i=> ?_
 replace c:=c.nw g.size i
 refine sT [(4,pV h.size)] fun a d=>qS d ?_
 replace g:=g.ext r
 refine tO 3 0 (g.blk hm)<|tC 5 (.tuple #[.agg (dn o.b o.e o.ho o.go (.slice ca 0 cc) (.slice ba o.dt.length bc)).toArray,.bool true]) (iv (t:=81) 9 101 (by kernel_rfl) (by kernel_rfl) (by kernel_rfl) (.agg (dj (.slice none 0 0)).toArray) (by kernel_rfl) (g.blk hp) hx hs md.nd hv)<|tN 9 (pV n.size) ((dj (.slice none 0 0)).toArray) 101 fun u p j=> ?_
 replace c:=c.nw g.size j
 refine bt 10 (dn o.b o.e o.ho o.go (.slice ca 0 cc) (.slice ba o.dt.length bc)) j fun w q k=> ?_
 replace j:=k
 refine sT [(6,pV n.size),(7,.bool true)] fun a d=>cS<|cB 0<|qS d<|tC 1 (.bool true) (Does.call (f:=62) (args:= #[.string s]) (by kernel_rfl) (gY _ s hok))<|sT [(17,.bool false)] fun a d=>cF 17 d ?_
 refine qP [(22,.bool false)] d fun a d=>cF 22 d<|cN<|bK<|tK<|qS d<|tR 0 j ?_
 replace i:=(i.x p).y q (c.bp 1 0)
 refine bt 1 (dn o.b o.e o.ho o.go (.slice ca 0 cc) (.slice ba o.dt.length bc)) i fun z m k=> ?_
 replace i:=k
 refine sT [(5,.int .i64 0)] fun a d=>cR<|aA [.cell 4 101,.tmp 5] [.agg (dn o.b o.e o.ho o.go (.slice ca 0 cc) (.slice ba o.dt.length bc)).toArray,.int .i64 0] (.tuple #[.agg (dn o.b o.e o.ho o.go (.slice ca 0 cc) (.slice ba o.dt.length bc)).toArray,.int .i64 0]) rfl d ⟨⟨_,rfl,Loads.blk (vs:=dn o.b o.e o.ho o.go (.slice ca 0 cc) (.slice ba o.dt.length bc)) (by kernel_rfl) i rfl⟩,rfl,trivial⟩ rfl ?_
 replace g:=((g.ext p).grew q (c.l 0)).grew m (c.l 1)
 exact⟨rfl,g⟩
noncomputable def b33:Code:=Tryz.f33.body.getD .skip
theorem uj(g k:Bool)(t e:Int):g=true∨(g=false∧k=true)∨(g=false∧k=false∧t<e)∨(g=false∧k=false∧e≤t):=by cases g<;>cases k<;>simp<;>omega
set_option maxHeartbeats 1000000 in
theorem iY{W:Nat→Prop}(h:Heap)(mb mp:Nat)(M:Md)(L:List bW)(ck:Nat)(ea:Option Addr)(ec:Nat)(es:List Value)(md:bJ W h mb mp M L ck ea ec es)(kd n:Int)(s:ByteArray)(oa:Option Addr)(on oc:Nat)(ka:Option Addr)(kn kc:Nat)(hsz:s.size ≤9223372036854775807):Sat Tryz.prog 33 #[.pointer (some ⟨mb,0,none⟩),.agg #[.int .i64 kd,.string s,.slice oa on oc,.int .i64 n,.slice ka kn kc]] h fun v h'=>v= .int .i64 (fL M kd n s).2 ∧eY W h' mb mp (fL M kd n s).1 ∧MG mb mp h h':=by
 have hm:=md.hm
 have hp:=md.hp
 have c:=Ext.refl h
 have d:Sep h.size h.size []:=Sep.nil _ _
 refine ag Tryz.func33 80 fun a b=>qS b<|tN 0 (pV h.size) #[.int .i64 kd,.string s,.slice oa on oc,.int .i64 n,.slice ka kn kc] 35 fun h1 g2 f=> ?_
 replace d:=d.nw c.size f
 refine sT [(3,pV h.size)] fun a b=>cS ?_
 rcases md.kv s with i|⟨i,X,b7⟩|⟨i,A,x,B,o,rfl,hs,X,a1,a2,H,I,P,Q,hv,r1,r2⟩
 ·refine rS b<|tO 2 1 f ?_
  replace c:=c.ext g2
  refine tG 3 (ui _ mb mp M _ ck ea ec es (md.ext c) s hsz i) ?_
  rintro _ h5 ⟨rfl,g4⟩
  refine tN 7 (pV h5.size) ((dj (.slice none 0 0)).toArray) 101 fun h6 g7 m8=> ?_
  replace c:=c.ext g4
  replace d:=(d.up g4.size).nw c.size m8
  refine bt 8 (dj (.slice none 0 0)) m8 fun h9 b8 R=>sE [(5,pV h5.size),(6,.int .i64 210)] fun a b=>tK<|cS<|cS ?_
  ·refine rP [(30,.bool false)] b fun a b=>tK<|cF 30 b<|cN<|tK<|cS<|qP [(32,.bool true)] b fun a b=> ?_
   refine cT 32 b<|qP [(4,.int .i64 210)] b fun a b=>cR (yT ?_)
   refine rT 4 (.int .i64 210) b ?_
   replace c:=(c.ext g7).grew b8 (d.l 0)
   rw[w6 i];exact⟨rfl,⟨_,_,_,_,_,md.ext c⟩,MG.aI c⟩
 ·refine rS b<|tO 2 1 f ?_
  replace c:=c.ext g2
  refine tG 3 (nT _ mb mp M _ ck ea ec es (md.ext c) s b7 i) ?_
  rintro _ a6 ⟨rfl,U⟩
  refine tN 7 (pV a6.size) ((dj (.slice none 0 0)).toArray) 101 fun c8 J a7=> ?_
  replace c:=c.ext U
  replace d:=(d.up U.size).nw c.size a7
  refine bt 8 (dj (.slice none 0 0)) a7 fun c9 K R=>sE [(5,pV a6.size),(6,.int .i64 211)] fun a b=>tK<|cS<|cS ?_
  rcases oJ kd n with u|u|u|u
  ·refine rS b ?_
   replace f:=((f.x U).x J).y K (d.bp 1 0)
   refine tO 4 0 f<|eT 5 kd 4<|tO 9 3 f<|tT 10 (n<(0:Int))<|sE [(30,.bool true)] fun a b=>tK<|cT 30 b ?_
   refine qP [(4,.int .i64 1)] b fun a b=>cR (yT ?_)
   refine rT 4 (.int .i64 1) b ?_
   replace c:=(c.ext J).grew K (d.l 0)
   rw[fA i (by omega)];exact⟨rfl,⟨_,_,_,_,_,md.ext c⟩,MG.aI c⟩
  ·refine rS b ?_
   replace f:=((f.x U).x J).y K (d.bp 1 0)
   refine tO 4 0 f<|eT 5 kd 4<|tO 9 3 f<|tX 10 (n<(0:Int))<|tO 13 3 f<|tT 14 ((1099511627776:Int)<n)<|sE [(30,.bool true)] fun a b=> ?_
   refine tK<|cT 30 b<|qP [(4,.int .i64 1)] b fun a b=>cR (yT ?_)
   refine rT 4 (.int .i64 1) b ?_
   replace c:=(c.ext J).grew K (d.l 0)
   rw[fA i (by omega)];exact⟨rfl,⟨_,_,_,_,_,md.ext c⟩,MG.aI c⟩
  ·refine rS b ?_
   replace f:=((f.x U).x J).y K (d.bp 1 0)
   refine tO 4 0 f<|eT 5 kd 4<|tO 9 3 f<|tX 10 (n<(0:Int))<|tO 13 3 f<|tX 14 ((1099511627776:Int)<n)<|sE [(30,.bool false)] fun a b=> ?_
   refine tK<|cF 30 b<|cN<|tK<|cS<|qP [(32,.bool true)] b fun a b=>cT 32 b ?_
   refine qP [(4,.int .i64 211)] b fun a b=>cR (yT ?_)
   refine rT 4 (.int .i64 211) b ?_
   replace c:=(c.ext J).grew K (d.l 0)
   rw[jy i (by omega) X];exact⟨rfl,⟨_,_,_,_,_,md.ext c⟩,MG.aI c⟩
  ·refine rS b ?_
   replace f:=((f.x U).x J).y K (d.bp 1 0)
   refine tO 4 0 f<|eF 5 kd 4<|sE [(30,.bool false)] fun a b=>tK<|cF 30 b<|cN<|tK ?_
   refine cS<|qP [(32,.bool true)] b fun a b=>cT 32 b<|qP [(4,.int .i64 211)] b fun a b=>cR (yT ?_)
   refine rT 4 (.int .i64 211) b ?_
   replace c:=(c.ext J).grew K (d.l 0)
   rw[jy i (by omega) X];exact⟨rfl,⟨_,_,_,_,_,md.ext c⟩,MG.aI c⟩
 ·obtain⟨m,j,E,og,C⟩:=o
  refine rS b<|tO 2 1 f ?_
  replace c:=c.ext g2
  refine tG 3 (qp _ mb mp M _ ck ea ec es (md.ext c) s x (List.mem_append_right _ (List.mem_cons_self ..)) hs ⟨m,j,E,og,C⟩ H I P Q hv i) ?_
  rintro _ D ⟨rfl,V⟩
  refine tN 7 (pV D.size) ((dj (.slice none 0 0)).toArray) 101 fun d0 r e=> ?_
  replace c:=c.ext V
  replace d:=(d.up V.size).nw c.size e
  refine bt 8 (dn m j E og (.slice H 0 I) (.slice P C.length Q)) e fun d1 q R=> ?_
  replace e:=R
  refine sE [(5,pV D.size),(6,.int .i64 0)] fun a b=>tK<|cS<|cS ?_
  rcases oJ kd n with u|u|u|u
  ·refine rS b ?_
   replace f:=((f.x V).x r).y q (d.bp 1 0)
   refine tO 4 0 f<|eT 5 kd 4<|tO 9 3 f<|tT 10 (n<(0:Int))<|sE [(30,.bool true)] fun a b=>tK<|cT 30 b ?_
   refine qP [(4,.int .i64 1)] b fun a b=>cR (yT ?_)
   refine rT 4 (.int .i64 1) b ?_
   replace c:=(c.ext r).grew q (d.l 0)
   rw[fA i (by omega)];exact⟨rfl,⟨_,_,_,_,_,md.ext c⟩,MG.aI c⟩
  ·refine rS b ?_
   replace f:=((f.x V).x r).y q (d.bp 1 0)
   refine tO 4 0 f<|eT 5 kd 4<|tO 9 3 f<|tX 10 (n<(0:Int))<|tO 13 3 f<|tT 14 ((1099511627776:Int)<n)<|sE [(30,.bool true)] fun a b=> ?_
   refine tK<|cT 30 b<|qP [(4,.int .i64 1)] b fun a b=>cR (yT ?_)
   refine rT 4 (.int .i64 1) b ?_
   replace c:=(c.ext r).grew q (d.l 0)
   rw[fA i (by omega)];exact⟨rfl,⟨_,_,_,_,_,md.ext c⟩,MG.aI c⟩
  ·refine rS b ?_
   replace f:=((f.x V).x r).y q (d.bp 1 0)
   refine tO 4 0 f<|eT 5 kd 4<|tO 9 3 f<|tX 10 (n<(0:Int))<|tO 13 3 f<|tX 14 ((1099511627776:Int)<n)<|sE [(30,.bool false)] fun a b=> ?_
   refine tK<|cF 30 b<|cN<|tK<|cS<|qP [(32,.bool false)] b fun a b=>cF 32 b ?_
   refine cN<|tK<|cS<|qS b<|tO 1 0 f<|sT [(35,.int .i64 kd)] fun a b=>cB 0 ?_
   refine qS b<|eT 0 kd 4<|sT [(47,.bool true)] fun a b=>cT 47 b ?_
   cases og
   ·refine rS b<|tQ 1 0 (rc m j E false (.slice H 0 I)) e<|tO 3 3 f<|tG 4 (zU _ m j E [] H I (r1.zero rfl) (by decide) n (by omega) (by omega)) ?_
    rintro _ d2 ⟨_,rfl,S,F,rfl,N,a3,g⟩
    replace c:=(c.ext r).grew q (d.l 0)
    replace d:=d.up q.size
    replace c:=c.ext g
    replace f:=f.x g
    replace e:=e.x g
    replace d:=d.up g.size
    clear a3 g;have a4:=N.row;clear N
    refine tV 9 0 (rc m (max j n) E false (.slice S 0 F)) (dn m (max j n) E false (.slice S 0 F) (.slice P C.length Q)) e fun d3 a8 R=> ?_
    replace e:=R
    refine sE [(6,.int .i64 0)] fun a b=>bK<|tK<|cS<|qP [(71,.bool true)] b fun a b=>cT 71 b<|cD [0,1,3,7,0,16,0,127] 13 mixed b ?_
    refine mP 7 [0,1,2] [pV mb,pV mb,pV mb] ?_
    replace c:=c.grew a8 (d.l 0)
    refine mO 15 8 3 0 (.map (some mp)) (c.blk hm)<|mP 31 [4] [.pointer (some ⟨h.size,1,none⟩)] ?_
    replace f:=f.y a8 (d.bp 1 0)
    refine mO 63 40 5 1 (.string s) f<|mR 127 104 6 e ?_
    have O:=c.blk hp
    refine i' 255 255 7 (Does.rp (t:=81) (k:=9) (el:=101) (v:= .agg (dn m (max j n) E false (.slice S 0 F) (.slice P C.length Q)).toArray) (by kernel_rfl) (by kernel_rfl) (by kernel_rfl) O hs md.nd) ?_
    rintro _ c0 ⟨rfl,hh⟩
    have Y:=bD hh
    have Z:=fT hh O
    refine mE [] fun a b=>tK<|qP [(4,.int .i64 0)] b fun a b=>cR<|rT 4 (.int .i64 0) b ?_
    have w:=md.ext c
    have a0:gg W c0 s (.agg (dn m (max j n) E false (.slice S 0 F) (.slice P C.length Q)).toArray) ⟨m,(max j n),E,false,C⟩:=⟨a1,a2,_,_,_,_,rfl,a4.zero rfl,(r2.ext c).mg (MG.zy Y) w.hm w.hp⟩
    subst hs
    rw[kx i (by omega) X (o':=⟨m,(max j n),E,false,C⟩) (by first|exact fc u.1 |exact fe p|exact fS u p ht)]
    exact⟨rfl,⟨_,_,_,_,_,w.set Y Z a0⟩,(MG.aI c).trans (MG.zy Y)⟩
   ·refine rS b<|tQ 1 0 (rc m j E true (.slice H 0 I)) e<|tO 3 3 f<|tG 4 (vv _ m j E [] H I n (by omega) (by omega)) ?_
    rintro _ d4 ⟨rfl,a9⟩
    replace e:=e.x a9
    refine tV 9 0 (bZ) (dj (.slice P C.length Q)) e fun d5 c1 R=>sE [(6,.int .i64 213)] fun a b=>bK<|tK<|cS<|qP [(71,.bool false)] b fun a b=>cF 71 b ?_
    refine cN<|tK<|qP [(4,.int .i64 213)] b fun a b=>cR<|rT 4 (.int .i64 213) b ?_
    replace c:=(((c.ext r).grew q (d.l 0)).ext a9).grew c1 (d.l 0)
    rw[fI i (by omega) X (z:=213) (by first|exact cY|exact cZ u p|exact c_ u p ht) (by decide)];exact⟨rfl,⟨_,_,_,_,_,md.ext c⟩,MG.aI c⟩
  ·refine rS b ?_
   replace f:=((f.x V).x r).y q (d.bp 1 0)
   refine tO 4 0 f<|eF 5 kd 4<|sE [(30,.bool false)] fun a b=>tK<|cF 30 b<|cN<|tK ?_
   refine cS<|qP [(32,.bool false)] b fun a b=>cF 32 b<|cN<|tK<|cS<|qS b ?_
   refine tO 1 0 f<|sT [(35,.int .i64 kd)] fun a b=>cB 0<|qS b<|eF 0 kd 4<|sT [(47,.bool false)] fun a b=>cF 47 b ?_
   refine cS ?_
   rcases(by omega:kd=5∨kd≠5) with p|p
   ·refine rS b<|eT 0 kd 5<|sE [(58,.bool true)] fun a b=>tK<|cT 58 b ?_
    cases og
    ·refine rS b<|tQ 1 0 (rc m j E false (.slice H 0 I)) e<|tO 3 3 f<|tG 5 (zV _ m j E [] H I (r1.zero rfl) (by decide) (decide (n=(1:Int)))) ?_
     rintro _ d6 ⟨_,rfl,T,G,rfl,N,a3,g⟩
     replace c:=(c.ext r).grew q (d.l 0)
     replace d:=d.up q.size
     replace c:=c.ext g
     replace f:=f.x g
     replace e:=e.x g
     replace d:=d.up g.size
     clear a3 g;have a4:=N.row;clear N
     refine tV 10 0 (rc m j (decide (n=(1:Int))) false (.slice T 0 G)) (dn m j (decide (n=(1:Int))) false (.slice T 0 G) (.slice P C.length Q)) e fun d7 b0 R=> ?_
     replace e:=R
     refine sE [(6,.int .i64 0)] fun a b=>bK<|tK<|cS<|qP [(71,.bool true)] b fun a b=>cT 71 b<|cD [0,1,3,7,0,16,0,127] 13 mixed b ?_
     refine mP 7 [0,1,2] [pV mb,pV mb,pV mb] ?_
     replace c:=c.grew b0 (d.l 0)
     refine mO 15 8 3 0 (.map (some mp)) (c.blk hm)<|mP 31 [4] [.pointer (some ⟨h.size,1,none⟩)] ?_
     replace f:=f.y b0 (d.bp 1 0)
     refine mO 63 40 5 1 (.string s) f<|mR 127 104 6 e ?_
     have O:=c.blk hp
     refine i' 255 255 7 (Does.rp (t:=81) (k:=9) (el:=101) (v:= .agg (dn m j (decide (n=(1:Int))) false (.slice T 0 G) (.slice P C.length Q)).toArray) (by kernel_rfl) (by kernel_rfl) (by kernel_rfl) O hs md.nd) ?_
     rintro _ c2 ⟨rfl,hh⟩
     have Y:=bD hh
     have Z:=fT hh O
     refine mE [] fun a b=>tK<|qP [(4,.int .i64 0)] b fun a b=>cR<|rT 4 (.int .i64 0) b ?_
     have w:=md.ext c
     have a0:gg W c2 s (.agg (dn m j (decide (n=(1:Int))) false (.slice T 0 G) (.slice P C.length Q)).toArray) ⟨m,j,(decide (n=(1:Int))),false,C⟩:=⟨a1,a2,_,_,_,_,rfl,a4.zero rfl,(r2.ext c).mg (MG.zy Y) w.hm w.hp⟩
     subst hs
     rw[kx i (by omega) X (o':=⟨m,j,(decide (n=(1:Int))),false,C⟩) (by first|exact fc u.1 |exact fe p|exact fS u p ht)]
     exact⟨rfl,⟨_,_,_,_,_,w.set Y Z a0⟩,(MG.aI c).trans (MG.zy Y)⟩
    ·refine rS b<|tQ 1 0 (rc m j E true (.slice H 0 I)) e<|tO 3 3 f<|tG 5 (vw _ m j E [] H I (decide (n=(1:Int)))) ?_
     rintro _ d8 ⟨rfl,b1⟩
     replace e:=e.x b1
     refine tV 10 0 (bZ) (dj (.slice P C.length Q)) e fun d9 c3 R=>sE [(6,.int .i64 213)] fun a b=>bK<|tK<|cS<|qP [(71,.bool false)] b fun a b=>cF 71 b ?_
     refine cN<|tK<|qP [(4,.int .i64 213)] b fun a b=>cR<|rT 4 (.int .i64 213) b ?_
     replace c:=(((c.ext r).grew q (d.l 0)).ext b1).grew c3 (d.l 0)
     rw[fI i (by omega) X (z:=213) (by first|exact cY|exact cZ u p|exact c_ u p ht) (by decide)];exact⟨rfl,⟨_,_,_,_,_,md.ext c⟩,MG.aI c⟩
   ·refine rS b<|eF 0 kd 5<|sE [(58,.bool false)] fun a b=>tK<|cF 58 b ?_
    rcases uj og E M.t j with rfl|⟨rfl,rfl⟩|⟨rfl,rfl,ht⟩|⟨rfl,rfl,ht⟩
    ·refine cD [0,1,0,4,12,28,63,127,255,255,511,1535,4095] 7 mixed b<|mP 1 [0] [pV D.size]<|mQ 3 2 1 0 (rc m j E true (.slice H 0 I)) e<|mP 31 [2,3,4] [pV mb,pV mb,.pointer (some ⟨mb,2,none⟩)] ?_
     replace c:=(c.ext r).grew q (d.l 0)
     refine mO 63 34 5 2 (.int .i64 M.t) (c.blk hm)<|gC 127 127 6 (ql _ m j E [] H I M.t) ?_
     rintro _ e1 ⟨rfl,b2⟩
     refine mP 2047 [7,8,9,10] [.tuple #[.agg (bZ).toArray,.int .i64 213],.agg (bZ).toArray,.int .i64 213,pV D.size] ?_
     replace e:=e.x b2
     refine mV 4095 3583 11 0 (bZ) (dj (.slice P C.length Q)) e fun e2 c4 R=>mP 8191 [12] [.int .i64 213]<|mE [(6,.int .i64 213)] fun a b=>bK<|tK<|cS<|qP [(71,.bool false)] b fun a b=> ?_
     refine cF 71 b<|cN<|tK<|qP [(4,.int .i64 213)] b fun a b=>cR<|rT 4 (.int .i64 213) b ?_
     replace c:=(c.ext b2).grew c4 (d.l 0)
     rw[fI i (by omega) X (z:=213) (by first|exact cY|exact cZ u p|exact c_ u p ht) (by decide)];exact⟨rfl,⟨_,_,_,_,_,md.ext c⟩,MG.aI c⟩
    ·refine cD [0,1,0,4,12,28,63,127,255,255,511,1535,4095] 7 mixed b<|mP 1 [0] [pV D.size]<|mQ 3 2 1 0 (rc m j true false (.slice H 0 I)) e<|mP 31 [2,3,4] [pV mb,pV mb,.pointer (some ⟨mb,2,none⟩)] ?_
     replace c:=(c.ext r).grew q (d.l 0)
     refine mO 63 34 5 2 (.int .i64 M.t) (c.blk hm)<|gC 127 127 6 (qm _ m j [] H I M.t) ?_
     rintro _ e3 ⟨rfl,b3⟩
     refine mP 2047 [7,8,9,10] [.tuple #[.agg (bZ).toArray,.int .i64 214],.agg (bZ).toArray,.int .i64 214,pV D.size] ?_
     replace e:=e.x b3
     refine mV 4095 3583 11 0 (bZ) (dj (.slice P C.length Q)) e fun e4 c5 R=>mP 8191 [12] [.int .i64 214]<|mE [(6,.int .i64 214)] fun a b=>bK<|tK<|cS<|qP [(71,.bool false)] b fun a b=> ?_
     refine cF 71 b<|cN<|tK<|qP [(4,.int .i64 214)] b fun a b=>cR<|rT 4 (.int .i64 214) b ?_
     replace c:=(c.ext b3).grew c5 (d.l 0)
     rw[fI i (by omega) X (z:=214) (by first|exact cY|exact cZ u p|exact c_ u p ht) (by decide)];exact⟨rfl,⟨_,_,_,_,_,md.ext c⟩,MG.aI c⟩
    ·refine cD [0,1,0,4,12,28,63,127,255,255,511,1535,4095] 7 mixed b<|mP 1 [0] [pV D.size]<|mQ 3 2 1 0 (rc m j false false (.slice H 0 I)) e<|mP 31 [2,3,4] [pV mb,pV mb,.pointer (some ⟨mb,2,none⟩)] ?_
     replace c:=(c.ext r).grew q (d.l 0)
     refine mO 63 34 5 2 (.int .i64 M.t) (c.blk hm)<|gC 127 127 6 (qn _ m j [] H I M.t ht) ?_
     rintro _ e5 ⟨rfl,b5⟩
     refine mP 2047 [7,8,9,10] [.tuple #[.agg (bZ).toArray,.int .i64 214],.agg (bZ).toArray,.int .i64 214,pV D.size] ?_
     replace e:=e.x b5
     refine mV 4095 3583 11 0 (bZ) (dj (.slice P C.length Q)) e fun e6 c6 R=>mP 8191 [12] [.int .i64 214]<|mE [(6,.int .i64 214)] fun a b=>bK<|tK<|cS<|qP [(71,.bool false)] b fun a b=> ?_
     refine cF 71 b<|cN<|tK<|qP [(4,.int .i64 214)] b fun a b=>cR<|rT 4 (.int .i64 214) b ?_
     replace c:=(c.ext b5).grew c6 (d.l 0)
     rw[fI i (by omega) X (z:=214) (by first|exact cY|exact cZ u p|exact c_ u p ht) (by decide)];exact⟨rfl,⟨_,_,_,_,_,md.ext c⟩,MG.aI c⟩
    ·refine cD [0,1,0,4,12,28,63,127,255,255,511,1535,4095] 7 mixed b<|mP 1 [0] [pV D.size]<|mQ 3 2 1 0 (rc m j false false (.slice H 0 I)) e<|mP 31 [2,3,4] [pV mb,pV mb,.pointer (some ⟨mb,2,none⟩)] ?_
     replace c:=(c.ext r).grew q (d.l 0)
     refine mO 63 34 5 2 (.int .i64 M.t) (c.blk hm)<|gC 127 127 6 (xw _ m j [] H I (r1.zero rfl) (by decide) M.t ht) ?_
     rintro _ e7 ⟨rfl,a5⟩
     refine mP 2047 [7,8,9,10] [.tuple #[.agg (rc m j false true (.slice none 0 0)).toArray,.int .i64 0],.agg (rc m j false true (.slice none 0 0)).toArray,.int .i64 0,pV D.size] ?_
     replace e:=e.x a5
     refine mV 4095 3583 11 0 (rc m j false true (.slice none 0 0)) (dn m j false true (.slice none 0 0) (.slice P C.length Q)) e fun e8 b6 R=> ?_
     replace e:=R
     refine mP 8191 [12] [.int .i64 0]<|mE [(6,.int .i64 0)] fun a b=>bK<|tK<|cS<|qP [(71,.bool true)] b fun a b=>cT 71 b ?_
     refine cD [0,1,3,7,0,16,0,127] 13 mixed b<|mP 7 [0,1,2] [pV mb,pV mb,pV mb] ?_
     replace c:=(c.ext a5).grew b6 (d.l 0)
     refine mO 15 8 3 0 (.map (some mp)) (c.blk hm)<|mP 31 [4] [.pointer (some ⟨h.size,1,none⟩)] ?_
     replace f:=(f.x a5).y b6 (d.bp 1 0)
     refine mO 63 40 5 1 (.string s) f<|mR 127 104 6 e ?_
     have O:=c.blk hp
     refine i' 255 255 7 (Does.rp (t:=81) (k:=9) (el:=101) (v:= .agg (dn m j false true (.slice none 0 0) (.slice P C.length Q)).toArray) (by kernel_rfl) (by kernel_rfl) (by kernel_rfl) O hs md.nd) ?_
     rintro _ c7 ⟨rfl,hh⟩
     have Y:=bD hh
     have Z:=fT hh O
     refine mE [] fun a b=>tK<|qP [(4,.int .i64 0)] b fun a b=>cR<|rT 4 (.int .i64 0) b ?_
     have w:=md.ext c
     have a0:gg W c7 s (.agg (dn m j false true (.slice none 0 0) (.slice P C.length Q)).toArray) ⟨m,j,false,true,C⟩:=⟨a1,a2,_,_,_,_,rfl,(Row.nil h 4).zero rfl,(r2.ext c).mg (MG.zy Y) w.hm w.hp⟩
     subst hs
     rw[kx i (by omega) X (o':=⟨m,j,false,true,C⟩) (by first|exact fc u.1 |exact fe p|exact fS u p ht)]
     exact⟨rfl,⟨_,_,_,_,_,w.set Y Z a0⟩,(MG.aI c).trans (MG.zy Y)⟩
theorem xC(h:Heap)(b:List UInt8)(va:Option Addr)(vc:Nat)(hr:Row h (.slice va b.length vc) b.length 1 (b.map bv))(hbl:b.length ≤1099511627000)(kt:bq h):Sat Tryz.prog 63 #[.slice va b.length vc] h fun v h'=>v= .agg ((hl (pN (bF b))).map bv).toArray ∧Ext h h':=by
 rw[l_ (eo b)];exact vj h b va vc hr hbl kt
theorem zW(h:Heap)(s:ByteArray)(n:Nat)(l:List UInt8)(y:RB)(hy:hl y=l)(hs:aK s=true)(hn:n≤512):Sat Tryz.prog 65 #[.string s,.int .i64 ((n:Nat):Int),.agg ((hl y).map bv).toArray] h fun v h'=>∃ad cap,v= .tuple #[.slice ad (dH s n l).length cap,.int .i64 0]∧Own h' (.slice ad (dH s n l).length cap) 5 (dH s n l).length 1 ((dH s n l).map bv)∧(∀k,ad.map (fun(x:Addr)=>x.block)=some k→h.size ≤k)∧Ext h h':=by
 subst hy;exact vz h s n (hl y) hs hn rfl
noncomputable def b32:Code:=Tryz.f32.body.getD .skip
theorem zX{h:Heap}{a:Option Addr}{n c sz:Nat}{xs:List Value}(r:Row h (.slice a n c) n sz xs):Row h (.slice a n n) n sz xs:=by
 refine⟨r.1,?_⟩
 rcases r.2 with⟨e,h0⟩|⟨x,cap,e,_,hx⟩
 ·cases e;exact .inl ⟨rfl,rfl⟩
 ·cases e;exact .inr ⟨x,n,rfl,Nat.le_refl _,hx⟩
theorem _root_.Go.ai.Row.xE{h:Heap}{a:Option Addr}{n c sz:Nat}{xs:List Value}(r:Row h (.slice a n c) n sz xs):n≤c:=by
 rcases r.2 with⟨e,h0⟩|⟨x,cap,e,hc,hx⟩
 ·cases e;exact Nat.le_refl _
 ·cases e;exact hc
set_option maxHeartbeats 1000000 in
theorem zY{W:Nat→Prop}(h:Heap)(mb mp:Nat)(M:Md)(L:List bW)(ck:Nat)(ea:Option Addr)(ec:Nat)(es:List Value)(md:bJ W h mb mp M L ck ea ec es)(hW:∀k,W k→k<h.size)(s:ByteArray)(hsz:s.size ≤9223372036854775807)(b:List UInt8)(va:Option Addr)(vc:Nat)(hr:Row h (.slice va b.length vc) b.length 1 (b.map bv))(kt:bq h)(hE:M.E.length ≤1099511627):Sat Tryz.prog 32 #[.pointer (some ⟨mb,0,none⟩),.string s,.slice va b.length vc] h fun v h'=>v= .int .i64 (du M s b).2 ∧eY W h' mb mp (du M s b).1 ∧MG mb mp h h':=by
 have hm:=md.hm
 have hp:=md.hp
 have i:=Ext.refl h
 have a2:=kt.lt
 have c:Sep h.size h.size []:=Sep.nil _ _
 refine ag Tryz.func32 76 fun a r=>qP [] r fun a r=>cS ?_
 rcases md.find s with⟨hf,c1⟩|⟨A,x,B,o,rfl,hs,hf,e6,e7,ca,cc,ba,bc,hv,r1,r2⟩
 ·refine rS r<|tO 3 0 (i.blk hm)<|tC 5 (.tuple #[.agg (dj (.slice none 0 0)).toArray,.bool false]) (oK (t:=81) 9 101 (by kernel_rfl) (by kernel_rfl) (by kernel_rfl) (.agg (dj (.slice none 0 0)).toArray) (by kernel_rfl) (i.blk hp) c1)<|tN 9 (pV h.size) ((dj (.slice none 0 0)).toArray) 101 fun h1 g2 U=> ?_
  replace c:=c.nw i.size U
  refine bt 10 (dj (.slice none 0 0)) U fun h4 g5 zq=> ?_
  replace U:=zq
  refine sE [(8,.bool false)] fun a r=>tK<|cS<|cB 0<|cS ?_
  rcases Bool.eq_false_or_eq_true (aK s) with w|w
  ·refine rS r<|tC 1 (.bool true) (Does.call (f:=62) (args:= #[.string s]) (by kernel_rfl) (gY _ s w))<|sE [(21,.bool false)] fun a r=>tK<|cF 21 r<|cS ?_
   rcases Nat.lt_or_ge 512 b.length with z|z
   ·refine rS r<|tT 2 ((512:Int)<((b.length :Nat):Int))<|sE [(25,.bool true)] fun a r=>tK<|cT 25 r<|qP [(6,.int .i64 5)] r fun a r=>cR (yB (yT ?_))
    refine rT 6 (.int .i64 5) r ?_
    replace i:=(i.ext g2).grew g5 (c.l 0)
    rw[iw w z];exact⟨rfl,⟨_,_,_,_,_,md.ext i⟩,MG.aI i⟩
   ·refine rS r<|tX 2 ((512:Int)<((b.length :Nat):Int))<|sE [(25,.bool false)] fun a r=>tK<|cF 25 r<|qP [(29,.bool false)] r fun a r=>cF 29 r ?_
    refine cN<|bK<|tK<|cS<|C.mono (K:=fun e a hJ=>∃(b3:Nat),∃(X:Option Addr) (I:Nat),e= .normal ∧(Ext h hJ)∧(bq hJ)∧(Own hJ (.slice X b.length I) 5 b.length 1 (b.map bv))∧(hJ[h.size]? =some (.cells (dj (.slice none 0 0)).toArray 101))∧(hJ[b3]? =some (.cells (dn (j' s ((b.length :Nat):Int) (bF b) ((M.E.length :Nat):Int)) 0 false false (.slice none 0 0) (.slice X b.length I)).toArray 101))∧(Sep h.size hJ.size [some b3,X.map (·.block),some (h.size)])∧Fr a 76 [(0,.pointer (some ⟨mb,0,none⟩)),(1,.string s),(9,.pointer (some ⟨b3,0,none⟩))]) ?_ ?_
    ·refine cD [0,0,2,0,8,0,32,96,224,480,1023,0,2072,8191,0,32767] 8 mixed r<|mP 239 [0,1,2,3,5,6,7] [.string s,.slice va b.length vc,nV b.length,.slice va b.length vc,pV mb,pV mb,.pointer (some ⟨mb,1,none⟩)] ?_
     replace i:=(i.ext g2).grew g5 (c.l 0)
     refine mO 495 256 8 1 (.slice ea M.E.length ec) (i.blk hm)<|mP 3055 [9,11] [nV M.E.length,.slice va b.length vc]<|aF.ov (is:=[4,14]) (by kernel_rfl) (by simp) ?_
     intro q hq
     simp only[List.mem_cons,List.not_mem_nil,or_false] at hq
     rcases hq with rfl|rfl
     ·replace kt:=(kt.ext g2).grew g5 (c.zero 0 rfl a2)
      refine pg 3071 24 4 [8] (Does.call (f:=63) (args:= #[.slice va b.length vc]) (by kernel_rfl) (xC _ b _ _ (hr.ext i) (by omega) kt)) ?_
      rintro _ h9 ⟨rfl,g8⟩
      replace i:=i.ext g8
      refine⟨?_,?_⟩
      ·intro j D
       simp only[List.mem_cons,List.not_mem_nil,or_false] at D
       subst D
       exact aE (Calm.load (T:=67) (p:=⟨mb,1,none⟩) (by kernel_rfl) (Loads.one (k:=1) (by kernel_rfl) ((an (i.blk hm)).trans rfl)))
      refine mP 4095 [10] [.agg (rc (j' s ((b.length :Nat):Int) (bF b) ((M.E.length :Nat):Int)) 0 false false (.slice none 0 0)).toArray]<|aF.ov (is:=[12,14]) (by kernel_rfl) (by simp) ?_
      intro q hq
      simp only[List.mem_cons,List.not_mem_nil,or_false] at hq
      rcases hq with rfl|rfl
      ·refine pg 8191 6168 12 [8] (Does.call (f:=64) (args:= #[.slice va b.length vc]) (by kernel_rfl) (fq _ b b.length _ _ (hr.ext i) (by omega))) ?_
       rintro _ Y ⟨J,F,rfl,d,c9,b5⟩
       replace c:=((c.up g5.size).up g8.size).co b5 c9 d i.size
       replace i:=i.ext b5
       refine⟨?_,?_⟩
       ·intro j D
        simp only[List.mem_cons,List.not_mem_nil,or_false] at D
        subst D
        exact aE (Calm.load (T:=67) (p:=⟨mb,1,none⟩) (by kernel_rfl) (Loads.one (k:=1) (by kernel_rfl) ((an (i.blk hm)).trans rfl)))
       refine mP 16383 [13] [.agg (dn (j' s ((b.length :Nat):Int) (bF b) ((M.E.length :Nat):Int)) 0 false false (.slice none 0 0) (.slice J b.length F)).toArray]<|gD 32767 22552 14 [8] (Does.new (v:= .pointer (some ⟨Y.size,0,none⟩)) (o:= .cells (dj (.slice none 0 0)).toArray 101) (by kernel_rfl)) ?_
       rintro _ d0 ⟨rfl,Q⟩
       have b6:Ext Y d0:=aT Q
       have b7:d0[Y.size]? =some (.cells (dj (.slice none 0 0)).toArray 101):=bj Q
       clear Q
       replace c:=c.nw i.size b7
       replace i:=i.ext b6
       refine⟨?_,?_⟩
       ·intro j D
        simp only[List.mem_cons,List.not_mem_nil,or_false] at D
        subst D
        exact aE (Calm.load (T:=67) (p:=⟨mb,1,none⟩) (by kernel_rfl) (Loads.one (k:=1) (by kernel_rfl) ((an (i.blk hm)).trans rfl)))
       refine mV 65535 65535 15 0 (dn (j' s ((b.length :Nat):Int) (bF b) ((M.E.length :Nat):Int)) 0 false false (.slice none 0 0) (.slice J b.length F)) (dn (j' s ((b.length :Nat):Int) (bF b) ((M.E.length :Nat):Int)) 0 false false (.slice none 0 0) (.slice J b.length F)) b7 fun e8 a3 zq=> ?_
       replace b7:=zq
       refine mE [(9,pV Y.size)] fun a r=> ?_
       replace c:=c.up a3.size
       have N:=c.pick (l':=[some Y.size,J.map (·.block),some (h.size)]) [0,1,2] rfl (by decide)
       replace kt:=(((kt.ext g8).ext b5).ext b6).grew a3 (c.zero 0 rfl a2)
       replace U:=(((U.x g8).x b5).x b6).y a3 (c.bp 2 0)
       replace d:=(d.ext b6).k a3 (c.ap 1 0)
       replace i:=i.grew a3 (c.l 0)
       exact⟨Y.size,J,F,rfl,i,kt,d,U,b7,N,r.to⟩
      ·refine pg 20479 16408 14 [8] (Does.new (v:= .pointer (some ⟨h9.size,0,none⟩)) (o:= .cells (dj (.slice none 0 0)).toArray 101) (by kernel_rfl)) ?_
       rintro _ d1 ⟨rfl,Q⟩
       have c2:Ext h9 d1:=aT Q
       have Z:d1[h9.size]? =some (.cells (dj (.slice none 0 0)).toArray 101):=bj Q
       clear Q
       replace c:=((c.up g5.size).up g8.size).nw i.size Z
       replace i:=i.ext c2
       refine⟨?_,?_⟩
       ·intro j D
        simp only[List.mem_cons,List.not_mem_nil,or_false] at D
        subst D
        exact aE (Calm.load (T:=67) (p:=⟨mb,1,none⟩) (by kernel_rfl) (Loads.one (k:=1) (by kernel_rfl) ((an (i.blk hm)).trans rfl)))
       refine gD 24575 22552 12 [8] (Does.call (f:=64) (args:= #[.slice va b.length vc]) (by kernel_rfl) (fq _ b b.length _ _ (hr.ext i) (by omega))) ?_
       rintro _ e9 ⟨O,G,rfl,d,d2,a4⟩
       replace c:=c.co a4 d2 d i.size
       replace i:=i.ext a4
       refine⟨?_,?_⟩
       ·intro j D
        simp only[List.mem_cons,List.not_mem_nil,or_false] at D
        subst D
        exact aE (Calm.load (T:=67) (p:=⟨mb,1,none⟩) (by kernel_rfl) (Loads.one (k:=1) (by kernel_rfl) ((an (i.blk hm)).trans rfl)))
       refine mP 32767 [13] [.agg (dn (j' s ((b.length :Nat):Int) (bF b) ((M.E.length :Nat):Int)) 0 false false (.slice none 0 0) (.slice O b.length G)).toArray] ?_
       replace Z:=Z.x a4
       refine mV 65535 65535 15 0 (dn (j' s ((b.length :Nat):Int) (bF b) ((M.E.length :Nat):Int)) 0 false false (.slice none 0 0) (.slice O b.length G)) (dn (j' s ((b.length :Nat):Int) (bF b) ((M.E.length :Nat):Int)) 0 false false (.slice none 0 0) (.slice O b.length G)) Z fun f0 a5 zq=> ?_
       replace Z:=zq
       refine mE [(9,pV h9.size)] fun a r=> ?_
       replace c:=c.up a5.size
       have N:=c.pick (l':=[some h9.size,O.map (·.block),some (h.size)]) [1,0,2] rfl (by decide)
       replace kt:=(((kt.ext g8).ext c2).ext a4).grew a5 (c.zero 1 rfl a2)
       replace U:=(((U.x g8).x c2).x a4).y a5 (c.bp 2 1)
       replace i:=i.grew a5 (c.l 1)
       replace d:=d.k a5 (c.ap 0 1)
       exact⟨h9.size,O,G,rfl,i,kt,d,U,Z,N,r.to⟩
     ·refine pg 19439 16384 14 [8] (Does.new (v:= .pointer (some ⟨h4.size,0,none⟩)) (o:= .cells (dj (.slice none 0 0)).toArray 101) (by kernel_rfl)) ?_
      rintro _ d3 ⟨rfl,Q⟩
      have c3:Ext h4 d3:=aT Q
      have a0:d3[h4.size]? =some (.cells (dj (.slice none 0 0)).toArray 101):=bj Q
      clear Q
      replace c:=(c.up g5.size).nw i.size a0
      replace i:=i.ext c3
      refine⟨?_,?_⟩
      ·intro j D
       simp only[List.mem_cons,List.not_mem_nil,or_false] at D
       subst D
       exact aE (Calm.load (T:=67) (p:=⟨mb,1,none⟩) (by kernel_rfl) (Loads.one (k:=1) (by kernel_rfl) ((an (i.blk hm)).trans rfl)))
      replace kt:=((kt.ext g2).grew g5 (c.zero 1 rfl a2)).ext c3
      refine gD 19455 16408 4 [8] (Does.call (f:=63) (args:= #[.slice va b.length vc]) (by kernel_rfl) (xC _ b _ _ (hr.ext i) (by omega) kt)) ?_
      rintro _ f1 ⟨rfl,a6⟩
      replace i:=i.ext a6
      refine⟨?_,?_⟩
      ·intro j D
       simp only[List.mem_cons,List.not_mem_nil,or_false] at D
       subst D
       exact aE (Calm.load (T:=67) (p:=⟨mb,1,none⟩) (by kernel_rfl) (Loads.one (k:=1) (by kernel_rfl) ((an (i.blk hm)).trans rfl)))
      refine mP 20479 [10] [.agg (rc (j' s ((b.length :Nat):Int) (bF b) ((M.E.length :Nat):Int)) 0 false false (.slice none 0 0)).toArray]<|gD 24575 22552 12 [8] (Does.call (f:=64) (args:= #[.slice va b.length vc]) (by kernel_rfl) (fq _ b b.length _ _ (hr.ext i) (by omega))) ?_
      rintro _ f2 ⟨P,H,rfl,d,d4,a7⟩
      replace c:=(c.up a6.size).co a7 d4 d i.size
      replace i:=i.ext a7
      refine⟨?_,?_⟩
      ·intro j D
       simp only[List.mem_cons,List.not_mem_nil,or_false] at D
       subst D
       exact aE (Calm.load (T:=67) (p:=⟨mb,1,none⟩) (by kernel_rfl) (Loads.one (k:=1) (by kernel_rfl) ((an (i.blk hm)).trans rfl)))
      refine mP 32767 [13] [.agg (dn (j' s ((b.length :Nat):Int) (bF b) ((M.E.length :Nat):Int)) 0 false false (.slice none 0 0) (.slice P b.length H)).toArray] ?_
      replace a0:=(a0.x a6).x a7
      refine mV 65535 65535 15 0 (dn (j' s ((b.length :Nat):Int) (bF b) ((M.E.length :Nat):Int)) 0 false false (.slice none 0 0) (.slice P b.length H)) (dn (j' s ((b.length :Nat):Int) (bF b) ((M.E.length :Nat):Int)) 0 false false (.slice none 0 0) (.slice P b.length H)) a0 fun f3 a8 zq=> ?_
      replace a0:=zq
      refine mE [(9,pV h4.size)] fun a r=> ?_
      replace c:=c.up a8.size
      have N:=c.pick (l':=[some h4.size,P.map (·.block),some (h.size)]) [1,0,2] rfl (by decide)
      replace U:=(((U.x c3).x a6).x a7).y a8 (c.bp 2 1)
      replace kt:=((kt.ext a6).ext a7).grew a8 (c.zero 1 rfl a2)
      replace i:=i.grew a8 (c.l 1)
      replace d:=d.k a8 (c.ap 0 1)
      exact⟨h4.size,P,H,rfl,i,kt,d,U,a0,N,r.to⟩
    ·clear r a i kt U c
     rintro e a f4 ⟨b3,X,I,rfl,i,kt,d,U,a9,c,r⟩
     refine tK<|qS r<|tO 3 1 a9<|tQ 6 2 ((hl (j' s ((b.length :Nat):Int) (bF b) ((M.E.length :Nat):Int))).map bv) a9<|tG 7 (zW _ s b.length (bF b) (j' s ((b.length :Nat):Int) (bF b) ((M.E.length :Nat):Int)) (w7 (eo b)) w (by omega)) ?_
     rintro _ f5 ⟨b0,R,rfl,u,d5,b8⟩
     replace c:=c.co b8 d5 u i.size
     refine sT [(10,.slice b0 ((dH s b.length (bF b)).length) R),(11,.int .i64 0)] fun a r=>cS<|qP [(57,.bool true)] r fun a r=>cT 57 r<|cS<|cD [0,1,3,7,0,0,63] 11 mixed r<|mP 7 [0,1,2] [pV mb,pV mb,pV mb] ?_
     replace i:=i.ext b8
     refine mO 15 8 3 0 (.map (some mp)) (i.blk hm)<|mP 31 [4] [.string s] ?_
     replace a9:=a9.x b8
     refine mR 63 40 5 a9 ?_
     have c4:=i.blk hp
     have d6:=i.blk hm
     have f6:=aj hp
     refine i' 127 127 6 (Does.rn (t:=81) (k:=9) (el:=101) (v:= .agg (dn (j' s ((b.length :Nat):Int) (bF b) ((M.E.length :Nat):Int)) 0 false false (.slice none 0 0) (.slice X b.length I)).toArray) (by kernel_rfl) (by kernel_rfl) (by kernel_rfl) c4 c1) ?_
     rintro _ d7 ⟨rfl,Q⟩
     have gp:=bD Q
     have b1:=fT Q c4
     have S:=gp.blk d6 (fun e=>md.ne (Option.some.inj e))
     have g0:MG mb mp h d7:=(MG.aI i).trans (MG.zy gp)
     replace d:=d.ext b8
     replace d:=d.kept gp (by rw[ae];right;intro e;have:=c.low 2 rfl _ e;omega)
     replace u:=u.kept gp (by rw[ae];right;intro e;have:=c.low 0 rfl _ e;omega)
     replace c:=c.up gp.size
     clear Q
     refine mE [] fun a r=>tK<|rS r<|tO 4 1 S<|tC 5 (.slice ea M.E.length M.E.length) (Does.call (f:=66) (args:= #[.slice ea M.E.length ec]) (by kernel_rfl) (xx _ M.E.length ea ec md.er.1.1.xE)) ?_
     have c5:=(md.er.ext i).mg (MG.zy gp) d6 c4
     refine tN 7 (.slice (some ⟨d7.size,0,none⟩) 1 1) #[.slice b0 ((dH s b.length (bF b)).length) R] 32 fun f7 a1 d8=> ?_
     replace c:=c.nw g0.1 d8
     replace c5:=c5.ext a1
     refine tF 8 (Does.rQ (t:=67) (E:=32) (sz:=1) (db:=24) (n:=M.E.length) (m:=1) (xs:=es) (ys:=[.slice b0 ((dH s b.length (bF b)).length) R]) (by kernel_rfl) (by kernel_rfl) (zX c5.1.1) (Row.blk d8 rfl) (List.all_eq_true.1 (by rfl)) (by decide) (by unfold maxLen;omega) (by omega)) ?_
     rintro _ e3 ⟨V,b2,rfl,c6,f8,g⟩
     replace g0:=g0.ext a1
     have d9:∀k,(some V).map (fun(x:Addr)=>x.block)=some k→h.size ≤k:=fun k e=>by have e2:V.block =k:=(by simpa using e);have:=g0.1;omega
     replace d:=d.ext a1
     replace u:=u.ext a1
     replace b1:=a1.blk b1
     replace S:=S.x a1
     replace d:=d.ext g
     replace u:=u.ext g
     replace g0:=g0.ext g
     replace b1:=g.blk b1
     replace S:=S.x g
     replace c:=c.up g.size
     clear g
     refine tW 11 1 ([.slice (some V) (M.E.length +1) b2]) ([.map (some mp),.slice ea M.E.length ec,.int .i64 M.t]) ([.map (some mp),.slice (some V) (M.E.length +1) b2,.int .i64 M.t]) S (fun f9 gm e4=> ?_)
     refine sE [] fun a r=>tK<|qP [(6,.int .i64 0)] r fun a r=>cR<|rT 6 (.int .i64 0) r ?_
     have g1:=jx s b.length (eo b)
     have g3:=iu w
     have e5:gg W e3 s (.agg (dn (j' s ((b.length :Nat):Int) (bF b) ((M.E.length :Nat):Int)) 0 false false (.slice none 0 0) (.slice X b.length I)).toArray) (pP s b M.E.length):=⟨rfl,z,_,_,_,_,rfl,(Row.nil h 4).zero rfl,cz.new d (by decide) hW (c.low 3 rfl)⟩
     have c0:=md.D2 g0 b1 S c1 e5 (cz.new c6 (by decide) hW d9) (by omega) (cz.new u (by decide) hW (c.low 1 rfl)) gm e4
     rw[jz w z hf];exact⟨rfl,c0.1,c0.2⟩
  ·refine rS r<|tC 1 (.bool false) (Does.call (f:=62) (args:= #[.string s]) (by kernel_rfl) (jQ _ s hsz w))<|sE [(21,.bool true)] fun a r=>tK<|cT 21 r<|qP [(6,.int .i64 210)] r fun a r=>cR (yB (yT ?_))
   refine rT 6 (.int .i64 210) r ?_
   replace i:=(i.ext g2).grew g5 (c.l 0)
   rw[oL w];exact⟨rfl,⟨_,_,_,_,_,md.ext i⟩,MG.aI i⟩
 ·refine rS r<|tO 3 0 (i.blk hm)<|tC 5 (.tuple #[.agg (dn o.b o.e o.ho o.go (.slice ca 0 cc) (.slice ba o.dt.length bc)).toArray,.bool true]) (iv (t:=81) 9 101 (by kernel_rfl) (by kernel_rfl) (by kernel_rfl) (.agg (dj (.slice none 0 0)).toArray) (by kernel_rfl) (i.blk hp) (List.mem_append_right _ (List.mem_cons_self ..)) hs md.nd hv)<|tN 9 (pV h.size) ((dj (.slice none 0 0)).toArray) 101 fun g4 c7 e1=> ?_
  replace c:=c.nw i.size e1
  refine bt 10 (dn o.b o.e o.ho o.go (.slice ca 0 cc) (.slice ba o.dt.length bc)) e1 fun g6 c8 zq=>sE [(8,.bool true)] fun a r=>tK<|cS<|cB 0<|cS ?_
  rcases Bool.eq_false_or_eq_true (aK s) with w|w
  ·refine rS r<|tC 1 (.bool true) (Does.call (f:=62) (args:= #[.string s]) (by kernel_rfl) (gY _ s w))<|sE [(21,.bool false)] fun a r=>tK<|cF 21 r<|cS ?_
   rcases Nat.lt_or_ge 512 b.length with z|z
   ·refine rS r<|tT 2 ((512:Int)<((b.length :Nat):Int))<|sE [(25,.bool true)] fun a r=>tK<|cT 25 r<|qP [(6,.int .i64 5)] r fun a r=>cR (yB (yT ?_))
    refine rT 6 (.int .i64 5) r ?_
    replace i:=(i.ext c7).grew c8 (c.l 0)
    rw[iw w z];exact⟨rfl,⟨_,_,_,_,_,md.ext i⟩,MG.aI i⟩
   ·refine rS r<|tX 2 ((512:Int)<((b.length :Nat):Int))<|sE [(25,.bool false)] fun a r=>tK<|cF 25 r<|qP [(29,.bool true)] r fun a r=>cT 29 r ?_
    refine qP [(6,.int .i64 212)] r fun a r=>cR (yB (yT ?_))
    refine rT 6 (.int .i64 212) r ?_
    replace i:=(i.ext c7).grew c8 (c.l 0)
    rw[iV w z hf];exact⟨rfl,⟨_,_,_,_,_,md.ext i⟩,MG.aI i⟩
  ·refine rS r<|tC 1 (.bool false) (Does.call (f:=62) (args:= #[.string s]) (by kernel_rfl) (jQ _ s hsz w))<|sE [(21,.bool true)] fun a r=>tK<|cT 21 r<|qP [(6,.int .i64 210)] r fun a r=>cR (yB (yT ?_))
   refine rT 6 (.int .i64 210) r ?_
   replace i:=(i.ext c7).grew c8 (c.l 0)
   rw[oL w];exact⟨rfl,⟨_,_,_,_,_,md.ext i⟩,MG.aI i⟩
noncomputable def FG:Code:=Tryz.f124.body.getD .skip
theorem uk(h:Heap)(x:Int):Sat Tryz.prog 124 #[.int .i64 x] h fun v h'=>v= .bool false∧h'=h:=by
 refine ag Tryz.func124 6 fun a b=>qP [] b fun a b=>qS b<|uF 2 x x<|sT [(2,.bool false)] fun a b=>cR<|rT 2 (.bool false) b ?_
 exact⟨rfl,rfl⟩
noncomputable def FH:Code:=Tryz.f109.body.getD .skip
theorem qq(h:Heap)(x y:Int):Sat Tryz.prog 109 #[.int .i64 x,.int .i64 y] h fun v h'=>v= .int .i64 (eP x y)∧h'=h:=by
 refine ag Tryz.func109 20 fun a b=>qP [] b fun a b=>qS b<|tC 1 (.bool false) (Does.call (f:=124) (args:= #[.int .i64 x]) (by kernel_rfl) (uk _ x))<|sT [(5,.bool false)] fun a b=>qS b<|tC 1 (.bool false) (Does.call (f:=124) (args:= #[.int .i64 y]) (by kernel_rfl) (uk _ y)) ?_
 refine sT [(6,.bool false)] fun a b=>cS<|qP [(11,.bool false)] b fun a b=>cF 11 b<|cN<|tK<|cS ?_
 refine qP [(13,.bool false)] b fun a b=>cF 13 b<|cN<|tK<|cS<|qP [(16,.bool (decide (x<y)))] b fun a b=>cJ 16 b (fun c=> ?_) fun c=> ?_
 ·refine qP [(4,.int .i64 (-1))] b fun a b=>cR (yT ?_)
  exact rT 4 (.int .i64 (-1)) b<|⟨congrArg (Value.int .i64) (by unfold eP;split<;>first|omega| (split<;>omega)),rfl⟩
 ·refine cN<|tK<|cS<|qP [(19,.bool (decide (y<x)))] b fun a b=>cJ 19 b (fun d=> ?_) fun d=> ?_
  ·refine qP [(4,.int .i64 1)] b fun a b=>cR (yT ?_)
   exact rT 4 (.int .i64 1) b<|⟨congrArg (Value.int .i64) (by unfold eP;split<;>first|omega| (split<;>omega)),rfl⟩
  ·exact cN<|tK<|qP [(4,.int .i64 0)] b fun a b=>cR<|rT 4 (.int .i64 0) b<|⟨congrArg (Value.int .i64) (by unfold eP;split<;>first|omega| (split<;>omega)),rfl⟩
noncomputable def FI:Code:=Tryz.f111.body.getD .skip
theorem qt(h:Heap)(s t:ByteArray):Sat Tryz.prog 111 #[.string s,.string t] h fun v h'=>v= .int .i64 (Lib.compareBytes s.data.toList t.data.toList)∧h'=h:=by
 refine ag Tryz.func111 8 fun a b=>qP [] b fun a b=>qS b<|t1 2 (.int .i64 (Lib.compareBytes s.data.toList t.data.toList)) (.int .i64 (Extern.BytealgCompare.cmp s t)) (congrArg (Value.int .i64) (Lib.cmp_eq s t))<|sT [(4,.int .i64 (Lib.compareBytes s.data.toList t.data.toList))] fun a b=>cR<|rT 4 (.int .i64 (Lib.compareBytes s.data.toList t.data.toList)) b ?_
 exact⟨rfl,rfl⟩
noncomputable def b74:Code:=Tryz.f74.body.getD .skip
theorem oS(h:Heap)(s t:ByteArray):Sat Tryz.prog 74 #[.string s,.string t] h fun v h'=>v= .int .i64 (Lib.compareBytes s.data.toList t.data.toList)∧h'=h:=by
 refine ag Tryz.func74 8 fun a b=>qP [] b fun a b=>qS b<|tC 2 (.int .i64 (Lib.compareBytes s.data.toList t.data.toList)) (Does.call (f:=111) (args:= #[.string s,.string t]) (by kernel_rfl) (qt _ s t))<|sT [(4,.int .i64 (Lib.compareBytes s.data.toList t.data.toList))] fun a b=>cR<|rT 4 (.int .i64 (Lib.compareBytes s.data.toList t.data.toList)) b ?_
 exact⟨rfl,rfl⟩
noncomputable def FJ:Code:=Tryz.f108.body.getD .skip
theorem BJ(h:Heap)(b:Nat)(p q:Int)(m:h[b]? =some (.cells #[.int .i64 p,.int .i64 q] 3)):Sat Tryz.prog 108 #[.slice (some ⟨b,0,none⟩) 2 2] h fun v h'=>v= .int .i64 (if p=0 then q else p)∧h'=h:=by
 refine ag Tryz.func108 18 fun a c=>qP [] c fun a c=>qP [(3,.int .i64 0)] c fun a c=>cS<|qP [(6,.slice (some ⟨b,0,none⟩) 2 2),(7,.int .i64 2),(8,.int .i64 0)] c fun a c=>cB 0<|cU 3 ?_
 refine ar.step <|qP [(9,.bool true)] c fun a c=>cS<|cT 9 c<|cN<|tK<|cS ?_
 refine cB 1<|qS c<|tJ 0 b 0 2 1 0 0<|tO 1 0 m<|sT [(5,.int .i64 p)] fun a c=>qP [(14,.bool (!decide (p=(0:Int))))] c fun a c=>cI 14 c (fun d=> ?_) fun d=> ?_
 ·refine qP [(2,.int .i64 p)] c fun a c=>cR (yB (yT (yT (yB (yT ?_)))))
  exact rT 2 (.int .i64 p) c<|⟨congrArg (Value.int .i64) (by split<;>omega),rfl⟩
 ·refine cN<|bK<|tK<|rP [(8,.int .i64 1)] c fun a c=>tK (ar.step ?_)
  refine qP [(9,.bool true)] c fun a c=>cS<|cT 9 c<|cN<|tK<|cS<|cB 1 ?_
  refine qS c<|tJ 0 b 0 2 1 1 1<|tO 1 1 m<|sT [(5,.int .i64 q)] fun a c=>qP [(14,.bool (!decide (q=(0:Int))))] c fun a c=>cI 14 c (fun e=> ?_) fun e=> ?_
  ·refine qP [(2,.int .i64 q)] c fun a c=>cR (yB (yT (yT (yB (yT ?_)))))
   exact rT 2 (.int .i64 q) c<|⟨congrArg (Value.int .i64) (by split<;>omega),rfl⟩
  ·refine cN<|bK<|tK<|rP [(8,.int .i64 2)] c fun a c=>tK (ar.step ?_)
   refine qP [(9,.bool false)] c fun a c=>cS<|cF 9 c<|cX 0 (xT (xT (xB ?_)))
   exact tK<|qP [(2,.int .i64 0)] c fun a c=>cR<|rT 2 (.int .i64 0) c<|⟨congrArg (Value.int .i64) (by split<;>omega),rfl⟩
noncomputable def FK:Code:=Tryz.f107.body.getD .skip
theorem gZ(h:Heap)(r s:Rec):Sat Tryz.prog 107 #[.agg (rcs r).toArray,.agg (rcs s).toArray] h fun v h'=>v= .int .i64 (fo r s)∧Ext h h':=by
 have c:=Ext.refl h
 refine ag Tryz.func107 17 fun a d=>qS d<|tN 0 (pV h.size) ((rcs r).toArray) 95 fun g o i=> ?_
 replace c:=c.ext o
 refine tN 1 (pV g.size) ((rcs s).toArray) 95 fun l m n=> ?_
 replace c:=c.ext m
 replace i:=i.x m
 refine sT [(2,pV h.size),(3,pV g.size)] fun a d=>cS<|cD [0,1,0,4,15,0,32,0,128,511,1023,2047,4095] 1 mixed d<|mP 1 [0] [.pointer (some ⟨h.size,35,none⟩)]<|mO 3 2 1 35 (.int .i64 r.e) i<|mP 7 [2] [.pointer (some ⟨g.size,35,none⟩)]<|mO 15 10 3 35 (.int .i64 s.e) n ?_
 refine mL 31 26 4 (.int .i64 (eP r.e s.e)) (Does.call (f:=109) (args:= #[.int .i64 r.e,.int .i64 s.e]) (by kernel_rfl) (qq _ r.e s.e))<|mP 63 [5] [pV h.size]<|mO 127 90 6 0 (.string r.b.id) i<|mP 255 [7] [pV g.size]<|mO 511 346 8 0 (.string s.b.id) n<|mL 1023 858 9 (.int .i64 (Lib.compareBytes r.b.id.data.toList s.b.id.data.toList)) (Does.call (f:=74) (args:= #[.string r.b.id,.string s.b.id]) (by kernel_rfl) (oS _ r.b.id s.b.id))<|mN 2047 2047 10 (.slice (some ⟨l.size,0,none⟩) 2 2) #[.int .i64 (eP r.e s.e),.int .i64 (Lib.compareBytes r.b.id.data.toList s.b.id.data.toList)] 3 fun p j k=> ?_
 replace c:=c.ext j
 exact mL 4095 2906 11 (.int .i64 (if (eP r.e s.e)=0 then (Lib.compareBytes r.b.id.data.toList s.b.id.data.toList) else (eP r.e s.e))) (Does.call (f:=108) (args:= #[.slice (some ⟨l.size,0,none⟩) 2 2]) (by kernel_rfl) (BJ _ _ (eP r.e s.e) (Lib.compareBytes r.b.id.data.toList s.b.id.data.toList) k))<|mP 8191 [12] [.int .i64 (if (eP r.e s.e)=0 then (Lib.compareBytes r.b.id.data.toList s.b.id.data.toList) else (eP r.e s.e))]<|mE [(4,.int .i64 (if (eP r.e s.e)=0 then (Lib.compareBytes r.b.id.data.toList s.b.id.data.toList) else (eP r.e s.e)))] fun a d=>tK<|cR<|rT 4 (.int .i64 (if (eP r.e s.e)=0 then (Lib.compareBytes r.b.id.data.toList s.b.id.data.toList) else (eP r.e s.e))) d<|⟨rfl,c⟩
noncomputable def FL:Code:=Tryz.f139.body.getD .skip
set_option maxHeartbeats 1000000 in
theorem um(h:Heap)(ad:Option Addr)(cap n la lb:Nat)(L:List Rec)(af:Own h (.slice ad n cap) 95 n 39 (a_ L))(hLn:L.length =n)(hb:lb≤n)(ha:la≤n)(hn:n≤1099511627776):Sat Tryz.prog 139 #[.slice ad n cap,.int .i64 ((la:Nat):Int),.int .i64 ((lb:Nat):Int),.func (.func 107) #[] #[]] h fun _ h'=>∃M,M.length =n∧M.Perm L∧(∀p,p<la∨lb≤p→M.getD p ah=L.getD p ah)∧bx M la lb∧Own h' (.slice ad n cap) 95 n 39 (a_ M)∧Grew (ad.map (fun(x:Addr)=>x.block)) h h':=by
 have e:=Grew.refl (ad.map (fun(x:Addr)=>x.block)) h
 refine ag Tryz.func139 53 fun a b=>qS b<|tA 1 la 1<|sT [(8,nV (la+1))] fun a b=>cB 0<|cL (fun m a h'=>∃i:Nat,∃M:List Rec,m=lb - i∧(Grew (ad.map (fun(x:Addr)=>x.block)) h h')∧(la<i∧(i≤lb∨i=la+1))∧(M.length =n)∧(M.Perm L)∧(∀p,p<la∨lb≤p→M.getD p ah=L.getD p ah)∧(bx M la i)∧(Own h' (.slice ad n cap) 95 n 39 (a_ M))∧(Fr a 53 [(0,.slice ad n cap),(1,.int .i64 ((la:Nat):Int)),(2,.int .i64 ((lb:Nat):Int)),(3,.func (.func 107) #[] #[]),(8,.int .i64 ((i:Nat):Int))])) (lb - (la+1)) ⟨(la+1),L,rfl,e,(by omega),hLn,(List.Perm.refl _),(fun _ _=>rfl),(bx.one L la),af,b.to⟩ ?_
 clear b a
 clear e
 clear hLn
 clear af
 rintro m a w ⟨i,M,rfl,e,B,l,o,hout,r,af,b⟩
 refine cS<|qP [(14,.bool (decide (((i:Nat):Int)<((lb:Nat):Int))))] b fun a b=>cJ 14 b (fun t=> ?_) fun t=> ?_
 ·refine cN<|tK<|cS<|cB 1<|qP [(9,nV i)] b fun a b=>cB 2<|cL (fun m a h'=>∃j:Nat,∃M:List Rec,m=j+1∧(Grew (ad.map (fun(x:Addr)=>x.block)) h h')∧(la≤j∧j≤i)∧(M.length =n)∧(M.Perm L)∧(∀p,p<la∨lb≤p→M.getD p ah=L.getD p ah)∧(rH M la i j)∧(Own h' (.slice ad n cap) 95 n 39 (a_ M))∧(Fr a 53 [(0,.slice ad n cap),(1,.int .i64 ((la:Nat):Int)),(2,.int .i64 ((lb:Nat):Int)),(3,.func (.func 107) #[] #[]),(8,.int .i64 ((i:Nat):Int)),(9,.int .i64 ((j:Nat):Int))])) (i+1) ⟨i,M,rfl,e,(by omega),l,o,hout,r.ins,af,b.to⟩ ?_
  clear b a
  clear e
  clear l
  clear o
  clear hout
  clear af
  rintro m a y ⟨j,M,rfl,e,C,l,o,hout,d,af,b⟩
  refine cS<|cS ?_
  rcases Nat.lt_or_ge la j with u|u
  ·obtain⟨k,rfl,s⟩:=af.bf (by omega)
   refine cD [0,0,3,7,15,15,15,111,239,15,15,1039,3599,7695,16383,32767,65535] 4 mixed b<|mP 3 [0,1] [nV j,nV la]<|Ew 7 2 (((la:Nat):Int)<((j:Nat):Int))<|mP 127 [3,4,5,6] [.bool true,.func (.func 107) #[] #[],.slice (some k) n cap,nV j]<|mI 255 7 k n 39 j (j*39)<|mY 511 256 8 j ah bk (af.row)<|mP 2047 [9,10] [.slice (some k) n cap,nV j] ?_
   refine mU 4095 11 j 1<|mI 8191 12 k n 39 (j - 1) ((j - 1)*39)<|mY 16383 8448 13 (j - 1) ah bk (af.row)<|i' 32767 32767 14 (Does.call (f:=107) (args:= #[.agg (rcs (M.getD j ah)).toArray,.agg (rcs (M.getD (j - 1) ah)).toArray]) (by kernel_rfl) (gZ _ (M.getD j ah) (M.getD (j - 1) ah))) ?_
   rintro _ D ⟨rfl,g⟩
   replace e:=e.trans (g.but _)
   replace af:=af.ext g
   clear g
   refine mP 131071 [15,16] [.bool (decide ((fo (M.getD j ah) (M.getD (j - 1) ah))<(0:Int))),.bool (decide ((fo (M.getD j ah) (M.getD (j - 1) ah))<(0:Int)))]<|mE [(34,.bool (decide ((fo (M.getD j ah) (M.getD (j - 1) ah))<(0:Int))))] fun a b=>tK<|cJ 34 b (fun v=> ?_) fun v=> ?_
   ·refine cN<|tK<|cS<|cB 3<|cD [0,0,0,0,8,0,0,64,224,480,0,0,3072,7168,16355,32739,65535,131071] 6 mixed b<|mP 15 [0,1,2,3] [.slice (some k) n cap,nV j,.slice (some k) n cap,nV j]<|mU 31 4 j 1 ?_
    refine mP 127 [5,6] [.slice (some k) n cap,nV j]<|mU 255 7 j 1<|mI 511 8 k n 39 (j - 1) ((j - 1)*39)<|mY 1023 512 9 (j - 1) ah bk (af.row)<|mP 4095 [10,11] [.slice (some k) n cap,nV j]<|mI 8191 12 k n 39 j (j*39)<|mY 16383 8704 13 j ah bk (af.row) ?_
    refine mI 32767 14 k n 39 j (j*39)<|i' 65535 65507 15 (Does.cH (a:=k) (q:=j*39) (vs:=rcs (M.getD (j - 1) ah)) (by kernel_rfl) af (by show _+39≤_;omega) (dU _)) ?_
    rintro _ E ⟨rfl,c,g⟩
    replace e:=e.trans g
    rw[fH bk (by first|omega| (rw[List.length_set];omega))] at c
    clear af;have af:=c;clear c g
    refine mI 131071 16 k n 39 (j - 1) ((j - 1)*39)<|i' 262143 262143 17 (Does.cH (a:=k) (q:=(j - 1)*39) (vs:=rcs (M.getD j ah)) (by kernel_rfl) af (by show _+39≤_;omega) (dU _)) ?_
    rintro _ F ⟨rfl,c,g⟩
    replace e:=e.trans g
    rw[fH bk (by first|omega| (rw[List.length_set];omega))] at c
    clear af;have af:=c;clear c g
    refine mE [] fun a b=>bK<|tK<|rS b<|tU 1 j 1<|sE [(9,nV (j - 1))] fun a b=> ?_
    show ∃m',m'<_∧_
    refine⟨_,?_,(j - 1),(swp M j),rfl,e,(by omega),((rI M j).trans l),((wL (by omega) (by omega)).trans o),(fun p z=>by rw[swp_get (by omega) (by omega),if_neg (by omega),if_neg (by omega)];exact hout p z),(d.step (by omega) (by omega) (by omega) (by omega)),af,b.to⟩
    omega
   ·have r:=d.done (by omega) (by omega) (.inr (by omega))
    clear d
    refine cX 2 (xT (xT (xB ?_)))
    refine bK<|tK<|rS b<|tA 1 i 1<|sE [(8,nV (i+1))] fun a b=> ?_
    show ∃m',m'<_∧_
    refine⟨_,?_,(i+1),M,rfl,e,(by omega),l,o,hout,r,af,b.to⟩
    omega
  ·have r:=d.done (by omega) (by omega) (.inl (by omega))
   clear d
   refine cD [0,0,3,7,15,15,15,111,239,15,15,1039,3599,7695,16383,32767,65535] 4 mixed b<|mP 3 [0,1] [nV j,nV la]<|Ex 7 2 (((la:Nat):Int)<((j:Nat):Int))<|mP 131071 [3,4,5,6,7,8,9,10,11,12,13,14,15,16] [.bool false,undef,undef,undef,undef,undef,undef,undef,undef,undef,undef,undef,undef,.bool false]<|mE [(34,.bool false)] fun a b=>tK<|cF 34 b ?_
   refine cX 2 (xT (xT (xB ?_)))
   refine bK<|tK<|rS b<|tA 1 i 1<|sE [(8,nV (i+1))] fun a b=> ?_
   show ∃m',m'<_∧_
   refine⟨_,?_,(i+1),M,rfl,e,(by omega),l,o,hout,r,af,b.to⟩
   omega
 ·refine cX 0 (xT (xT (xB ?_)))
  exact n0 b<|⟨M,l,o,hout,fun p q w A y=>r p q w A (by omega),af,e⟩
noncomputable def FM:Code:=Tryz.f148.body.getD .skip
set_option maxHeartbeats 1000000 in
theorem oT(h:Heap)(ad:Option Addr)(cap n la lb lc:Nat)(L:List Rec)(af:Own h (.slice ad n cap) 95 n 39 (a_ L))(hLn:L.length =n)(hac:la+lc≤lb)(hbc:lb+lc≤n)(hn:n≤1099511627776):Sat Tryz.prog 148 #[.slice ad n cap,.int .i64 ((la:Nat):Int),.int .i64 ((lb:Nat):Int),.int .i64 ((lc:Nat):Int),.func (.func 107) #[] #[]] h fun _ h'=>∃M,M.length =n∧M.Perm L∧Idx M L (qL la lb lc)∧Own h' (.slice ad n cap) 95 n 39 (a_ M)∧Grew (ad.map (fun(x:Addr)=>x.block)) h h':=by
 have e:=Grew.refl (ad.map (fun(x:Addr)=>x.block)) h
 refine ag Tryz.func148 38 fun a c=>qP [(10,.int .i64 0)] c fun a c=>cB 0<|cL (fun m a h'=>∃i:Nat,∃M:List Rec,m=lc - i∧(Grew (ad.map (fun(x:Addr)=>x.block)) h h')∧(i≤lc)∧(M.length =n)∧(M.Perm L)∧(Idx M L (qL la lb i))∧(Own h' (.slice ad n cap) 95 n 39 (a_ M))∧(Fr a 38 [(0,.slice ad n cap),(1,.int .i64 ((la:Nat):Int)),(2,.int .i64 ((lb:Nat):Int)),(3,.int .i64 ((lc:Nat):Int)),(10,.int .i64 ((i:Nat):Int))])) (lc - 0) ⟨0,L,rfl,e,(by omega),hLn,(List.Perm.refl _),(Idx.refl _ (CB la lb)),af,c.to⟩ ?_
 clear c a
 clear e
 clear hLn
 clear af
 rintro m a p ⟨i,M,rfl,e,r,k,l,o,af,c⟩
 refine cS<|qP [(13,.bool (decide (((i:Nat):Int)<((lc:Nat):Int))))] c fun a c=>cJ 13 c (fun j=> ?_) fun j=> ?_
 ·obtain⟨d,rfl,f⟩:=af.bf (by omega)
  refine cN<|tK<|cS<|cB 1<|cD [0,0,0,6,0,0,0,96,0,0,0,1536,3840,7936,0,0,0,98304,245760,507904,1048335,2096911,4194303,8388607] 3 mixed c<|mP 7 [0,1,2] [.slice (some d) n cap,nV la,nV i]<|mA 15 3 la i ?_
  refine mP 127 [4,5,6] [.slice (some d) n cap,nV lb,nV i]<|mA 255 7 lb i<|mP 2047 [8,9,10] [.slice (some d) n cap,nV lb,nV i]<|mA 4095 11 lb i<|mI 8191 12 d n 39 (lb+i) ((lb+i)*39)<|mY 16383 8192 13 (lb+i) ah bk (af.row)<|mP 131071 [14,15,16] [.slice (some d) n cap,nV la,nV i] ?_
  refine mA 262143 17 la i<|mI 524287 18 d n 39 (la+i) ((la+i)*39)<|mY 1048575 532480 19 (la+i) ah bk (af.row)<|mI 2097151 20 d n 39 (la+i) ((la+i)*39)<|i' 4194303 4194063 21 (Does.cH (a:=d) (q:=(la+i)*39) (vs:=rcs (M.getD (lb+i) ah)) (by kernel_rfl) af (by show _+39≤_;omega) (dU _)) ?_
  rintro _ s ⟨rfl,b,g⟩
  replace e:=e.trans g
  rw[fH bk (by first|omega| (rw[List.length_set];omega))] at b
  clear af;have af:=b;clear b g
  refine mI 8388607 22 d n 39 (lb+i) ((lb+i)*39)<|i' 16777215 16777215 23 (Does.cH (a:=d) (q:=(lb+i)*39) (vs:=rcs (M.getD (la+i) ah)) (by kernel_rfl) af (by show _+39≤_;omega) (dU _)) ?_
  rintro _ t ⟨rfl,b,g⟩
  replace e:=e.trans g
  rw[fH bk (by first|omega| (rw[List.length_set];omega))] at b
  clear af;have af:=b;clear b g
  refine mE [] fun a c=>bK<|tK<|rS c<|tA 1 i 1<|sE [(10,nV (i+1))] fun a c=> ?_
  show ∃m',m'<_∧_
  refine⟨_,?_,(i+1),(ng M (la+i) (lb+i)),rfl,e,(by omega),((gS M _ _).trans k),((ks (by omega) (by omega)).trans l),(o.swp (by omega) (by omega) (wP (by omega))),af,c.to⟩
  omega
 ·refine cX 0 (xT (xT (xB ?_)))
  refine n0 c ?_
  obtain rfl:lc=i:=by omega
  exact⟨M,k,l,o,af,e⟩
noncomputable def FN:Code:=Tryz.f146.body.getD .skip
theorem uo(h:Heap)(ad:Option Addr)(cap n la lm lb:Nat)(L:List Rec)(af:Own h (.slice ad n cap) 95 n 39 (a_ L))(hLn:L.length =n)(ham:la<lm)(hmb:lm<lb)(hbn:lb≤n)(hn:n≤1099511627776):Sat Tryz.prog 146 #[.slice ad n cap,.int .i64 ((la:Nat):Int),.int .i64 ((lm:Nat):Int),.int .i64 ((lb:Nat):Int),.func (.func 107) #[] #[]] h fun _ h'=>∃M,M.length =n∧M.Perm L∧Idx M L (kK lm (lm - la) (lb - lm))∧Own h' (.slice ad n cap) 95 n 39 (a_ M)∧Grew (ad.map (fun(x:Addr)=>x.block)) h h':=by
 have f:=Grew.refl (ad.map (fun(x:Addr)=>x.block)) h
 refine ag Tryz.func146 58 fun a b=>qS b<|tU 2 lm la<|sT [(10,nV (lm - la))] fun a b=>qS b<|tU 2 lb lm<|sT [(11,nV (lb - lm))] fun a b=> ?_
 refine cS<|cB 0<|cL (fun m a h'=>∃i:Nat,∃j:Nat,∃M:List Rec,m=i+j∧(Grew (ad.map (fun(x:Addr)=>x.block)) h h')∧(0<i∧0<j∧i≤lm∧lm+j≤lb)∧(M.length =n)∧(M.Perm L)∧(kS L M lm la lb i j)∧(Own h' (.slice ad n cap) 95 n 39 (a_ M))∧(Fr a 58 [(0,.slice ad n cap),(2,.int .i64 ((lm:Nat):Int)),(4,.func (.func 107) #[] #[]),(10,.int .i64 ((i:Nat):Int)),(11,.int .i64 ((j:Nat):Int))])) ((lm - la)+(lb - lm)) ⟨(lm - la),(lb - lm),L,rfl,f,(by omega),hLn,(List.Perm.refl _),(kS.start _ _ _ _),af,b.to⟩ ?_
 clear b a
 clear f
 clear hLn
 clear af
 rintro m a z ⟨i,j,M,rfl,f,s,k,l,o,af,b⟩
 refine cS<|qP [(20,.bool (!decide (((i:Nat):Int)=((j:Nat):Int))))] b fun a b=>cI 20 b (fun q=> ?_) fun q=> ?_
 ·refine cN<|tK<|cB 1<|qP [(23,.bool (decide (((j:Nat):Int)<((i:Nat):Int))))] b fun a b=>cJ 23 b (fun r=> ?_) fun r=> ?_
  ·refine qS b<|tU 3 lm i<|tG 7 (oT _ ad cap n (lm - i) (lm) (j) M af k (by omega) (by omega) (by omega)) ?_
   rintro _ A ⟨t,d,e,p,c,g⟩
   replace f:=f.trans g
   clear af;have af:=c;clear c g
   replace l:=e.trans l;replace k:=d;clear e d
   replace o:=o.big p (by omega) (by omega)
   refine sT [] fun a b=>rS b<|tU 2 i j<|sE [(10,nV (i - j))] fun a b=>bK ?_
   show ∃m',m'<_∧_
   refine⟨_,?_,i - j,j,t,rfl,f,(by omega),k,l,o,af,b.to⟩
   omega
  ·have u:i<j:=by omega
   refine qS b<|tU 3 lm i<|tA 6 lm j<|tU 8 (lm+j) i<|tG 11 (oT _ ad cap n (lm - i) ((lm+j) - i) (i) M af k (by omega) (by omega) (by omega)) ?_
   rintro _ B ⟨v,d,e,p,c,g⟩
   replace f:=f.trans g
   clear af;have af:=c;clear c g
   replace l:=e.trans l;replace k:=d;clear e d
   replace o:=o.small p (by omega) (by omega)
   refine sT [] fun a b=>rS b<|tU 2 j i<|sE [(11,nV (j - i))] fun a b=>bK ?_
   show ∃m',m'<_∧_
   refine⟨_,?_,i,j - i,v,rfl,f,(by omega),k,l,o,af,b.to⟩
   omega
 ·have w:i=j:=by omega
  refine cX 0 (xT (xT (xB ?_)))
  refine tK<|rS b<|tU 3 lm i<|tG 7 (oT _ ad cap n (lm - i) (lm) (i) M af k (by omega) (by omega) (by omega)) ?_
  rintro _ C ⟨y,d,e,p,c,g⟩
  replace f:=f.trans g
  clear af;have af:=c;clear c g
  replace l:=e.trans l;replace k:=d;clear e d
  replace o:=o.last p (by omega) (by omega)
  exact sE [] fun a b=>n0 b<|⟨y,k,l,o,af,f⟩
noncomputable def FO:Code:=Tryz.f140.body.getD .skip
set_option maxHeartbeats 4000000 in
theorem xF(h:Heap)(ad:Option Addr)(cap n la lm lb:Nat)(L:List Rec)(af:Own h (.slice ad n cap) 95 n 39 (a_ L))(hLn:L.length =n)(ham:la<lm)(hmb:lm<lb)(hbn:lb≤n)(hn:n≤1099511627776)(hs1:bx L la lm)(hs2:bx L lm lb)(ih:∀(h:Heap) (a m b:Nat) (L:List Rec),b - a<lb - la→Own h (.slice ad n cap) 95 n 39 (a_ L)→L.length =n→a<m→m<b→b≤n→bx L a m→bx L m b→Sat Tryz.prog 140 #[.slice ad n cap,.int .i64 ((a:Nat):Int),.int .i64 ((m:Nat):Int),.int .i64 ((b:Nat):Int),.func (.func 107) #[] #[]] h fun _ h'=>∃M,pJ n a b L M∧Own h' (.slice ad n cap) 95 n 39 (a_ M)∧Grew (ad.map (fun(x:Addr)=>x.block)) h h'):Sat Tryz.prog 140 #[.slice ad n cap,.int .i64 ((la:Nat):Int),.int .i64 ((lm:Nat):Int),.int .i64 ((lb:Nat):Int),.func (.func 107) #[] #[]] h fun _ h'=>∃M,pJ n la lb L M∧Own h' (.slice ad n cap) 95 n 39 (a_ M)∧Grew (ad.map (fun(x:Addr)=>x.block)) h h':=by
 have s:=Grew.refl (ad.map (fun(x:Addr)=>x.block)) h
 refine ag Tryz.func140 220 fun a l=>cS<|qS l<|tU 2 lm la<|sT [(28,.bool (decide (((lm - la:Nat):Int)=(1:Int))))] fun a l=>cJ 28 l (fun t=> ?_) fun t=> ?_
 ·have R:lm=la+1:=by omega
  refine qP [(10,nV lm)] l fun a l=>qP [(11,nV lb)] l fun a l=>cS<|cB 0<|cL (fun m a h'=>∃i:Nat,∃j:Nat,m=j - i∧(Grew (ad.map (fun(x:Addr)=>x.block)) h h')∧(lm≤i∧i≤j∧j≤lb)∧(i=lm∨fo (L.getD (i - 1) ah) (L.getD (la) ah)<0)∧(j=lb∨¬fo (L.getD (j) ah) (L.getD (la) ah)<0)∧(Own h' (.slice ad n cap) 95 n 39 (a_ L))∧(Fr a 220 [(0,.slice ad n cap),(1,.int .i64 ((la:Nat):Int)),(4,.func (.func 107) #[] #[]),(10,.int .i64 ((i:Nat):Int)),(11,.int .i64 ((j:Nat):Int))])) (lb - lm) ⟨lm,lb,rfl,s,(by omega),(.inl (by omega)),(.inl (by omega)),af,l.to⟩ ?_
  clear l a
  clear s
  clear af
  rintro m a h2 ⟨i,j,rfl,s,S,C,D,af,l⟩
  refine cS<|qP [(33,.bool (decide (((i:Nat):Int)<((j:Nat):Int))))] l fun a l=>cJ 33 l (fun a8=> ?_) fun a8=> ?_
  ·obtain⟨A,rfl,B⟩:=af.bf (by omega)
   refine cN<|tK<|cB 1<|qS l<|tA 2 i j<|t1 3 (.int .u64 ((i+j:Nat):Int)) (.int .u64 (IntKind.u64.wrap ((i+j:Nat):Int))) (congrArg (Value.int .u64) (mW (by omega)))<|t1 4 (.int .u64 (((i+j)/2^1:Nat):Int)) (.int .u64 (Int.fdiv ((i+j:Nat):Int) (2^1))) (congrArg (Value.int .u64) (bM (i+j) 1)) ?_
   refine t1 5 (.int .i64 (((i+j)/2^1:Nat):Int)) (.int .i64 (IntKind.i64.wrap (((i+j)/2^1:Nat):Int))) (congrArg (Value.int .i64) (kg (by omega) (by omega)))<|sT [(12,nV ((i+j)/2^1))] fun a l=> ?_
   obtain⟨c,T⟩:∃x,(i+j)/2^1=x:=⟨_,rfl⟩;rw[T] at l
   have U:i≤c∧c<j:=by omega
   refine cS<|cD [0,0,0,6,14,0,0,96,224,511,1023] 5 mixed l<|mP 7 [0,1,2] [.func (.func 107) #[] #[],.slice (some A) n cap,nV c]<|mI 15 3 A n 39 c (c*39)<|mY 31 16 4 c ah bk (af.row)<|mP 127 [5,6] [.slice (some A) n cap,nV la]<|mI 255 7 A n 39 la (la*39) ?_
   refine mY 511 272 8 la ah bk (af.row)<|i' 1023 1023 9 (Does.call (f:=107) (args:= #[.agg (rcs (L.getD c ah)).toArray,.agg (rcs (L.getD la ah)).toArray]) (by kernel_rfl) (gZ _ (L.getD c ah) (L.getD la ah))) ?_
   rintro _ h4 ⟨rfl,g⟩
   replace s:=s.trans (g.but _)
   replace af:=af.ext g
   clear g
   refine mP 2047 [10] [.bool (decide ((fo (L.getD c ah) (L.getD la ah))<(0:Int)))]<|mE [(50,.bool (decide ((fo (L.getD c ah) (L.getD la ah))<(0:Int))))] fun a l=>tK<|cJ 50 l (fun V=> ?_) fun V=> ?_
   ·have w:c+1=lm∨fo (L.getD (c+1 - 1) ah) (L.getD (la) ah)<0:= .inr V
    have y:=D
    refine rS l<|tA 1 c 1<|sE [(10,nV (c+1))] fun a l=>bK ?_
    show ∃m',m'<_∧_
    refine⟨_,?_,c+1,j,rfl,s,(by omega),w,y,af,l.to⟩
    omega
   ·have y:c=lb∨¬fo (L.getD (c) ah) (L.getD (la) ah)<0:= .inr V
    have w:=C
    refine rP [(11,nV c)] l fun a l=>bK ?_
    show ∃m',m'<_∧_
    refine⟨_,?_,i,c,rfl,s,(by omega),w,y,af,l.to⟩
    omega
  ·obtain rfl:i=j:=by omega
   refine cX 0 (xT (xT (xB ?_)))
   refine tK<|cS<|qP [(13,nV la)] l fun a l=>cB 2<|cL (fun m a h'=>∃k:Nat,∃M:List Rec,m=i - k∧(Grew (ad.map (fun(x:Addr)=>x.block)) h h')∧(la≤k∧k+1≤i)∧(M.length =n)∧(M.Perm L)∧(Idx M L (lx la k))∧(Own h' (.slice ad n cap) 95 n 39 (a_ M))∧(Fr a 220 [(0,.slice ad n cap),(10,.int .i64 ((i:Nat):Int)),(13,.int .i64 ((k:Nat):Int))])) (i - la) ⟨la,L,rfl,s,(by omega),hLn,(List.Perm.refl _),(Idx.refl _ (DW la)),af,l.to⟩ ?_
   clear l a
   clear s
   clear hLn
   clear af
   rintro m a h6 ⟨k,M,rfl,s,r,O,P,Q,af,l⟩
   refine cS<|qS l<|tU 2 i 1<|sT [(58,.bool (decide (((k:Nat):Int)<((i - 1:Nat):Int))))] fun a l=>cJ 58 l (fun a9=> ?_) fun a9=> ?_
   ·have d3:k+1<i:=by omega
    obtain⟨A,rfl,B⟩:=af.bf (by omega)
    refine cN<|tK<|cS<|cB 3<|cD [0,0,0,0,8,0,0,64,224,480,0,0,3072,7168,16355,32739,65535,131071] 11 mixed l<|mP 15 [0,1,2,3] [.slice (some A) n cap,nV k,.slice (some A) n cap,nV k]<|mA 31 4 k 1 ?_
    refine mP 127 [5,6] [.slice (some A) n cap,nV k]<|mA 255 7 k 1<|mI 511 8 A n 39 (k+1) ((k+1)*39)<|mY 1023 512 9 (k+1) ah bk (af.row)<|mP 4095 [10,11] [.slice (some A) n cap,nV k]<|mI 8191 12 A n 39 k (k*39)<|mY 16383 8704 13 k ah bk (af.row) ?_
    refine mI 32767 14 A n 39 k (k*39)<|i' 65535 65507 15 (Does.cH (a:=A) (q:=k*39) (vs:=rcs (M.getD (k+1) ah)) (by kernel_rfl) af (by show _+39≤_;omega) (dU _)) ?_
    rintro _ h8 ⟨rfl,p,g⟩
    replace s:=s.trans g
    rw[fH bk (by first|omega| (rw[List.length_set];omega))] at p
    clear af;have af:=p;clear p g
    refine mI 131071 16 A n 39 (k+1) ((k+1)*39)<|i' 262143 262143 17 (Does.cH (a:=A) (q:=(k+1)*39) (vs:=rcs (M.getD k ah)) (by kernel_rfl) af (by show _+39≤_;omega) (dU _)) ?_
    rintro _ h9 ⟨rfl,p,g⟩
    replace s:=s.trans g
    rw[fH bk (by first|omega| (rw[List.length_set];omega))] at p
    clear af;have af:=p;clear p g
    refine mE [] fun a l=>bK<|tK<|rS l<|tA 1 k 1<|sE [(13,nV (k+1))] fun a l=> ?_
    show ∃m',m'<_∧_
    refine⟨_,?_,k+1,(ng M k (k+1)),rfl,s,(by omega),((gS M _ _).trans O),((ks (by omega) (by omega)).trans P),(Q.swp (by omega) (by omega) (zr (by omega))),af,l.to⟩
    omega
   ·refine cX 2 (xT (xT (xB ?_)))
    refine tK<|cR (yT ?_)
    exact r0 l<|⟨M,DX O P Q (by omega) (R▸hs2) (by omega) (by omega) (C.imp (fun z=>by omega) id) D,af,s⟩
 ·refine cN<|tK<|cS<|qS l<|tU 2 lb lm<|sT [(80,.bool (decide (((lb - lm:Nat):Int)=(1:Int))))] fun a l=>cJ 80 l (fun a1=> ?_) fun a1=> ?_
  ·have R:lb=lm+1:=by omega
   refine qP [(14,nV la)] l fun a l=>qP [(15,nV lm)] l fun a l=>cS<|cB 4<|cL (fun m a h'=>∃i:Nat,∃j:Nat,m=j - i∧(Grew (ad.map (fun(x:Addr)=>x.block)) h h')∧(la≤i∧i≤j∧j≤lm)∧(i=la∨¬fo (L.getD (lm) ah) (L.getD (i - 1) ah)<0)∧(j=lm∨fo (L.getD (lm) ah) (L.getD (j) ah)<0)∧(Own h' (.slice ad n cap) 95 n 39 (a_ L))∧(Fr a 220 [(0,.slice ad n cap),(2,.int .i64 ((lm:Nat):Int)),(4,.func (.func 107) #[] #[]),(14,.int .i64 ((i:Nat):Int)),(15,.int .i64 ((j:Nat):Int))])) (lm - la) ⟨la,lm,rfl,s,(by omega),(.inl (by omega)),(.inl (by omega)),af,l.to⟩ ?_
   clear l a
   clear s
   clear af
   rintro m a d4 ⟨i,j,rfl,s,S,C,D,af,l⟩
   refine cS<|qP [(85,.bool (decide (((i:Nat):Int)<((j:Nat):Int))))] l fun a l=>cJ 85 l (fun a2=> ?_) fun a2=> ?_
   ·obtain⟨A,rfl,B⟩:=af.bf (by omega)
    refine cN<|tK<|cB 5<|qS l<|tA 2 i j<|t1 3 (.int .u64 ((i+j:Nat):Int)) (.int .u64 (IntKind.u64.wrap ((i+j:Nat):Int))) (congrArg (Value.int .u64) (mW (by omega)))<|t1 4 (.int .u64 (((i+j)/2^1:Nat):Int)) (.int .u64 (Int.fdiv ((i+j:Nat):Int) (2^1))) (congrArg (Value.int .u64) (bM (i+j) 1)) ?_
    refine t1 5 (.int .i64 (((i+j)/2^1:Nat):Int)) (.int .i64 (IntKind.i64.wrap (((i+j)/2^1:Nat):Int))) (congrArg (Value.int .i64) (kg (by omega) (by omega)))<|sT [(16,nV ((i+j)/2^1))] fun a l=> ?_
    obtain⟨c,T⟩:∃x,(i+j)/2^1=x:=⟨_,rfl⟩;rw[T] at l
    have U:i≤c∧c<j:=by omega
    refine cS<|cD [0,0,0,6,14,0,0,96,224,511,1023,2047] 17 mixed l<|mP 7 [0,1,2] [.func (.func 107) #[] #[],.slice (some A) n cap,nV lm]<|mI 15 3 A n 39 lm (lm*39)<|mY 31 16 4 lm ah bk (af.row)<|mP 127 [5,6] [.slice (some A) n cap,nV c]<|mI 255 7 A n 39 c (c*39) ?_
    refine mY 511 272 8 c ah bk (af.row)<|i' 1023 1023 9 (Does.call (f:=107) (args:= #[.agg (rcs (L.getD lm ah)).toArray,.agg (rcs (L.getD c ah)).toArray]) (by kernel_rfl) (gZ _ (L.getD lm ah) (L.getD c ah))) ?_
    rintro _ d5 ⟨rfl,g⟩
    replace s:=s.trans (g.but _)
    replace af:=af.ext g
    clear g
    refine mP 4095 [10,11] [.bool (decide ((fo (L.getD lm ah) (L.getD c ah))<(0:Int))),.bool (!(decide ((fo (L.getD lm ah) (L.getD c ah))<(0:Int))))]<|mE [(103,.bool (!(decide ((fo (L.getD lm ah) (L.getD c ah))<(0:Int)))))] fun a l=>tK<|cC 103 (!(decide ((fo (L.getD lm ah) (L.getD c ah))<(0:Int)))) l (fun I=> ?_) (fun I=> ?_)
    ·have w:c+1=la∨¬fo (L.getD (lm) ah) (L.getD (c+1 - 1) ah)<0:= .inr (by simpa using I)
     have y:=D
     refine rS l<|tA 1 c 1<|sE [(14,nV (c+1))] fun a l=>bK ?_
     show ∃m',m'<_∧_
     refine⟨_,?_,c+1,j,rfl,s,(by omega),w,y,af,l.to⟩
     omega
    ·have y:c=lm∨fo (L.getD (lm) ah) (L.getD (c) ah)<0:= .inr (by simpa using I)
     have w:=C
     refine rP [(15,nV c)] l fun a l=>bK ?_
     show ∃m',m'<_∧_
     refine⟨_,?_,i,c,rfl,s,(by omega),w,y,af,l.to⟩
     omega
   ·obtain rfl:i=j:=by omega
    refine cX 4 (xT (xT (xB ?_)))
    refine tK<|cS<|qP [(17,nV lm)] l fun a l=>cB 6<|cL (fun m a h'=>∃k:Nat,∃M:List Rec,m=k+1∧(Grew (ad.map (fun(x:Addr)=>x.block)) h h')∧(i≤k∧k≤lm)∧(M.length =n)∧(M.Perm L)∧(Idx M L (rx lm k))∧(Own h' (.slice ad n cap) 95 n 39 (a_ M))∧(Fr a 220 [(0,.slice ad n cap),(14,.int .i64 ((i:Nat):Int)),(17,.int .i64 ((k:Nat):Int))])) (lm+1) ⟨lm,L,rfl,s,(by omega),hLn,(List.Perm.refl _),(Idx.refl _ (DY lm)),af,l.to⟩ ?_
    clear l a
    clear s
    clear hLn
    clear af
    rintro m a d6 ⟨k,M,rfl,s,r,O,P,Q,af,l⟩
    refine cS<|qP [(110,.bool (decide (((i:Nat):Int)<((k:Nat):Int))))] l fun a l=>cJ 110 l (fun a3=> ?_) fun a3=> ?_
    ·obtain⟨A,rfl,B⟩:=af.bf (by omega)
     refine cN<|tK<|cS<|cB 7<|cD [0,0,0,0,8,0,0,64,224,480,0,0,3072,7168,16355,32739,65535,131071] 23 mixed l<|mP 15 [0,1,2,3] [.slice (some A) n cap,nV k,.slice (some A) n cap,nV k]<|mU 31 4 k 1 ?_
     refine mP 127 [5,6] [.slice (some A) n cap,nV k]<|mU 255 7 k 1<|mI 511 8 A n 39 (k - 1) ((k - 1)*39)<|mY 1023 512 9 (k - 1) ah bk (af.row)<|mP 4095 [10,11] [.slice (some A) n cap,nV k]<|mI 8191 12 A n 39 k (k*39)<|mY 16383 8704 13 k ah bk (af.row) ?_
     refine mI 32767 14 A n 39 k (k*39)<|i' 65535 65507 15 (Does.cH (a:=A) (q:=k*39) (vs:=rcs (M.getD (k - 1) ah)) (by kernel_rfl) af (by show _+39≤_;omega) (dU _)) ?_
     rintro _ d7 ⟨rfl,p,g⟩
     replace s:=s.trans g
     rw[fH bk (by first|omega| (rw[List.length_set];omega))] at p
     clear af;have af:=p;clear p g
     refine mI 131071 16 A n 39 (k - 1) ((k - 1)*39)<|i' 262143 262143 17 (Does.cH (a:=A) (q:=(k - 1)*39) (vs:=rcs (M.getD k ah)) (by kernel_rfl) af (by show _+39≤_;omega) (dU _)) ?_
     rintro _ d8 ⟨rfl,p,g⟩
     replace s:=s.trans g
     rw[fH bk (by first|omega| (rw[List.length_set];omega))] at p
     clear af;have af:=p;clear p g
     refine mE [] fun a l=>bK<|tK<|rS l<|tU 1 k 1<|sE [(17,nV (k - 1))] fun a l=> ?_
     show ∃m',m'<_∧_
     refine⟨_,?_,k - 1,(ng M k (k - 1)),rfl,s,(by omega),((gS M _ _).trans O),((ks (by omega) (by omega)).trans P),(Q.swp (by omega) (by omega) (zt (by omega) (by omega))),af,l.to⟩
     omega
    ·refine cX 6 (xT (xT (xB ?_)))
     refine tK<|cR (yT ?_)
     exact r0 l<|⟨M,by have z:=DZ O P Q (by omega) hs1 (by omega) (by omega) C D;rwa [←R] at z,af,s⟩
  ·refine cN<|tK<|qS l<|tA 2 la lb<|t1 3 (.int .u64 ((la+lb:Nat):Int)) (.int .u64 (IntKind.u64.wrap ((la+lb:Nat):Int))) (congrArg (Value.int .u64) (mW (by omega)))<|t1 4 (.int .u64 (((la+lb)/2^1:Nat):Int)) (.int .u64 (Int.fdiv ((la+lb:Nat):Int) (2^1))) (congrArg (Value.int .u64) (bM (la+lb) 1))<|t1 5 (.int .i64 (((la+lb)/2^1:Nat):Int)) (.int .i64 (IntKind.i64.wrap (((la+lb)/2^1:Nat):Int))) (congrArg (Value.int .i64) (kg (by omega) (by omega))) ?_
   refine sT [(18,nV ((la+lb)/2^1))] fun a l=> ?_
   obtain⟨o,a4⟩:∃x,(la+lb)/2^1=x:=⟨_,rfl⟩;rw[a4] at l
   have hmb:la<o∧o<lb:=by omega
   refine qS l<|tA 2 o lm<|sT [(19,nV (o+lm))] fun a l=>qP [] l fun a l=>cS<|qP [(140,.bool (decide (((o:Nat):Int)<((lm:Nat):Int))))] l fun a l=>cJ 140 l (fun a5=> ?_) fun a5=> ?_
   ·refine qS l<|tU 2 (o+lm) lb<|sT [(20,nV ((o+lm) - lb))] fun a l=>rP [(21,nV o)] l fun a l=>tK<|qS l<|tU 1 (o+lm) 1 ?_
    refine sT [(22,nV ((o+lm) - 1))] fun a l=> ?_
    obtain⟨N,b0⟩:∃x,(o+lm) - lb=x:=⟨_,rfl⟩;obtain⟨r0,b1⟩:∃x,o=x:=⟨_,rfl⟩
    have d9:(o<lm∧N+lb=o+lm∧r0=o)∨(lm≤o∧N=la∧r0=lm):=by omega
    have d2:N≤r0:=by omega
    refine cS<|cB 8<|cL (fun m a h'=>∃i:Nat,∃j:Nat,m=j - i∧(Grew (ad.map (fun(x:Addr)=>x.block)) h h')∧(N≤i∧i≤j∧j≤r0)∧(i=N∨¬fo (L.getD (o+lm - 1 - (i - 1)) ah) (L.getD (i - 1) ah)<0)∧(j=r0∨fo (L.getD (o+lm - 1 - (j)) ah) (L.getD (j) ah)<0)∧(Own h' (.slice ad n cap) 95 n 39 (a_ L))∧(Fr a 220 [(0,.slice ad n cap),(1,.int .i64 ((la:Nat):Int)),(2,.int .i64 ((lm:Nat):Int)),(3,.int .i64 ((lb:Nat):Int)),(4,.func (.func 107) #[] #[]),(18,.int .i64 ((o:Nat):Int)),(19,.int .i64 ((o+lm:Nat):Int)),(20,.int .i64 ((i:Nat):Int)),(21,.int .i64 ((j:Nat):Int)),(22,.int .i64 (((o+lm) - 1:Nat):Int))])) (o - ((o+lm) - lb)) ⟨(o+lm) - lb,o,rfl,s,(by omega),(.inl (by omega)),(.inl (by omega)),af,l.to⟩ ?_
    clear l a
    clear s
    clear af
    rintro m a e0 ⟨i,j,rfl,s,S,C,D,af,l⟩
    refine cS<|qP [(151,.bool (decide (((i:Nat):Int)<((j:Nat):Int))))] l fun a l=>cJ 151 l (fun a6=> ?_) fun a6=> ?_
    ·obtain⟨A,rfl,B⟩:=af.bf (by omega)
     refine cN<|tK<|cB 9<|qS l<|tA 2 i j<|t1 3 (.int .u64 ((i+j:Nat):Int)) (.int .u64 (IntKind.u64.wrap ((i+j:Nat):Int))) (congrArg (Value.int .u64) (mW (by omega)))<|t1 4 (.int .u64 (((i+j)/2^1:Nat):Int)) (.int .u64 (Int.fdiv ((i+j:Nat):Int) (2^1))) (congrArg (Value.int .u64) (bM (i+j) 1)) ?_
     refine t1 5 (.int .i64 (((i+j)/2^1:Nat):Int)) (.int .i64 (IntKind.i64.wrap (((i+j)/2^1:Nat):Int))) (congrArg (Value.int .i64) (kg (by omega) (by omega)))<|sT [(23,nV ((i+j)/2^1))] fun a l=> ?_
     obtain⟨c,T⟩:∃x,(i+j)/2^1=x:=⟨_,rfl⟩;rw[T] at l
     have U:i≤c∧c<j:=by omega
     refine cS<|cD [0,0,0,0,12,30,62,0,0,384,896,2047,4095,8191] 35 mixed l<|mP 15 [0,1,2,3] [.func (.func 107) #[] #[],.slice (some A) n cap,nV ((o+lm) - 1),nV c]<|mU 31 4 ((o+lm) - 1) c<|mI 63 5 A n 39 (((o+lm) - 1) - c) ((((o+lm) - 1) - c)*39)<|mY 127 64 6 (((o+lm) - 1) - c) ah bk (af.row)<|mP 511 [7,8] [.slice (some A) n cap,nV c] ?_
     refine mI 1023 9 A n 39 c (c*39)<|mY 2047 1088 10 c ah bk (af.row)<|i' 4095 4095 11 (Does.call (f:=107) (args:= #[.agg (rcs (L.getD (((o+lm) - 1) - c) ah)).toArray,.agg (rcs (L.getD c ah)).toArray]) (by kernel_rfl) (gZ _ (L.getD (((o+lm) - 1) - c) ah) (L.getD c ah))) ?_
     rintro _ e1 ⟨rfl,g⟩
     replace s:=s.trans (g.but _)
     replace af:=af.ext g
     clear g
     refine mP 16383 [12,13] [.bool (decide ((fo (L.getD (((o+lm) - 1) - c) ah) (L.getD c ah))<(0:Int))),.bool (!(decide ((fo (L.getD (((o+lm) - 1) - c) ah) (L.getD c ah))<(0:Int))))]<|mE [(171,.bool (!(decide ((fo (L.getD (((o+lm) - 1) - c) ah) (L.getD c ah))<(0:Int)))))] fun a l=>tK<|cC 171 (!(decide ((fo (L.getD (((o+lm) - 1) - c) ah) (L.getD c ah))<(0:Int)))) l (fun J=> ?_) (fun J=> ?_)
     ·have w:c+1=N∨¬fo (L.getD (o+lm - 1 - (c+1 - 1)) ah) (L.getD (c+1 - 1) ah)<0:= .inr (by rw[show o+lm - 1 - (c+1 - 1)=o+lm - 1 - c by omega];simpa using J)
      have y:=D
      refine rS l<|tA 1 c 1<|sE [(20,nV (c+1))] fun a l=>bK ?_
      show ∃m',m'<_∧_
      refine⟨_,?_,c+1,j,rfl,s,(by omega),w,y,af,l.to⟩
      omega
     ·have y:c=r0∨fo (L.getD (o+lm - 1 - (c)) ah) (L.getD (c) ah)<0:= .inr (by simpa using J)
      have w:=C
      refine rP [(21,nV c)] l fun a l=>bK ?_
      show ∃m',m'<_∧_
      refine⟨_,?_,i,c,rfl,s,(by omega),w,y,af,l.to⟩
      omega
    ·obtain rfl:i=j:=by omega
     refine cX 8 (xT (xT (xB ?_)))
     refine tK<|qS l<|tU 2 (o+lm) i<|sT [(24,nV ((o+lm) - i))] fun a l=> ?_
     obtain⟨e,he⟩:∃x,(o+lm) - i=x:=⟨_,rfl⟩;rw[he] at l
     have ham:la≤i∧i≤lm∧lm≤e∧e≤lb∧i≤o∧o≤e∧i+e=o+lm:=by omega
     have E:i=la∨e=lb∨gy (L.getD (i - 1) ah) (L.getD e ah):=by
      rcases C with z|z
      ·omega
      ·by_cases hi0:i=la
       ·exact .inl hi0
       ·rw[show o+lm - 1 - (i - 1)=e by omega] at z;exact .inr (.inr (ei z))
     have F:i=lm∨i=o∨gy (L.getD (e - 1) ah) (L.getD i ah):=by
      rcases D with z|z
      ·omega
      ·rw[show o+lm - 1 - i=e - 1 by omega] at z;exact .inr (.inr (fQ z))
     refine cS<|cS ?_
     rcases Nat.lt_or_ge i lm with t|t
     rcases Nat.lt_or_ge lm e with v|v
     ·refine rS l<|tT 2 (((i:Nat):Int)<((lm:Nat):Int))<|tT 6 (((lm:Nat):Int)<((e:Nat):Int))<|sE [(185,.bool true)] fun a l=>tK<|cT 185 l<|rS l ?_
      refine tG 5 (uo _ ad cap n i lm e L af hLn (by omega) (by omega) (by omega) (by omega)) ?_
      rintro _ e2 ⟨G,O,P,Q,p,g⟩
      replace s:=s.trans g
      clear af;have af:=p;clear p g
      have d:Cut n la lm lb o i e L G:=⟨O,P,Q,hs1,hs2,ham,E,F⟩
      refine sE [] fun a l=>tK<|cS<|cS ?_
      rcases Nat.lt_or_ge la i with t|t
      rcases Nat.lt_or_ge i o with v|v
      ·refine rS l<|tT 2 (((la:Nat):Int)<((i:Nat):Int))<|tT 6 (((i:Nat):Int)<((o:Nat):Int))<|sE [(199,.bool true)] fun a l=>tK<|cT 199 l<|rS l ?_
       refine tG 5 (ih _ la i o G (by omega) af d.len (by omega) (by omega) (by omega) d.r1 d.r2) ?_
       rintro _ e3 ⟨W,r,p,g⟩
       replace s:=s.trans g
       clear af;have af:=p;clear p g
       refine sE [] fun a l=>tK<|cS ?_
       rcases Nat.lt_or_ge o e with t|t
       rcases Nat.lt_or_ge e lb with v|v
       ·refine rS l<|tT 2 (((o:Nat):Int)<((e:Nat):Int))<|tT 6 (((e:Nat):Int)<((lb:Nat):Int))<|sE [(213,.bool true)] fun a l=>tK<|cT 213 l<|rS l ?_
        refine tG 5 (ih _ o e lb W (by omega) af r.len (by omega) (by omega) (by omega) (d.sort r).1 (d.sort r).2) ?_
        rintro _ e4 ⟨b2,u,p,g⟩
        replace s:=s.trans g
        clear af;have af:=p;clear p g
        exact sE [] fun a l=>n0 l<|⟨b2,d.done r u,af,s⟩
       ·have u:=d.right r (by omega)
        refine rS l<|tT 2 (((o:Nat):Int)<((e:Nat):Int))<|tX 6 (((e:Nat):Int)<((lb:Nat):Int))<|sE [(213,.bool false)] fun a l=>tK<|cF 213 l<|cN ?_
        exact n0 l<|⟨W,d.done r u,af,s⟩
       ·have u:=d.right r (by omega)
        refine rS l<|tX 2 (((o:Nat):Int)<((e:Nat):Int))<|sE [(213,.bool false)] fun a l=>tK<|cF 213 l<|cN<|n0 l ?_
        exact⟨W,d.done r u,af,s⟩
      ·have r:=d.left (by omega)
       refine rS l<|tT 2 (((la:Nat):Int)<((i:Nat):Int))<|tX 6 (((i:Nat):Int)<((o:Nat):Int))<|sE [(199,.bool false)] fun a l=>tK<|cF 199 l<|cN ?_
       refine tK<|cS ?_
       rcases Nat.lt_or_ge o e with t|t
       rcases Nat.lt_or_ge e lb with v|v
       ·refine rS l<|tT 2 (((o:Nat):Int)<((e:Nat):Int))<|tT 6 (((e:Nat):Int)<((lb:Nat):Int))<|sE [(213,.bool true)] fun a l=>tK<|cT 213 l<|rS l ?_
        refine tG 5 (ih _ o e lb G (by omega) af r.len (by omega) (by omega) (by omega) (d.sort r).1 (d.sort r).2) ?_
        rintro _ e5 ⟨b3,u,p,g⟩
        replace s:=s.trans g
        clear af;have af:=p;clear p g
        exact sE [] fun a l=>n0 l<|⟨b3,d.done r u,af,s⟩
       ·have u:=d.right r (by omega)
        refine rS l<|tT 2 (((o:Nat):Int)<((e:Nat):Int))<|tX 6 (((e:Nat):Int)<((lb:Nat):Int))<|sE [(213,.bool false)] fun a l=>tK<|cF 213 l<|cN ?_
        exact n0 l<|⟨G,d.done r u,af,s⟩
       ·have u:=d.right r (by omega)
        refine rS l<|tX 2 (((o:Nat):Int)<((e:Nat):Int))<|sE [(213,.bool false)] fun a l=>tK<|cF 213 l<|cN<|n0 l ?_
        exact⟨G,d.done r u,af,s⟩
      ·have r:=d.left (by omega)
       refine rS l<|tX 2 (((la:Nat):Int)<((i:Nat):Int))<|sE [(199,.bool false)] fun a l=>tK<|cF 199 l<|cN<|tK ?_
       refine cS ?_
       rcases Nat.lt_or_ge o e with t|t
       rcases Nat.lt_or_ge e lb with v|v
       ·refine rS l<|tT 2 (((o:Nat):Int)<((e:Nat):Int))<|tT 6 (((e:Nat):Int)<((lb:Nat):Int))<|sE [(213,.bool true)] fun a l=>tK<|cT 213 l<|rS l ?_
        refine tG 5 (ih _ o e lb G (by omega) af r.len (by omega) (by omega) (by omega) (d.sort r).1 (d.sort r).2) ?_
        rintro _ e6 ⟨b5,u,p,g⟩
        replace s:=s.trans g
        clear af;have af:=p;clear p g
        exact sE [] fun a l=>n0 l<|⟨b5,d.done r u,af,s⟩
       ·have u:=d.right r (by omega)
        refine rS l<|tT 2 (((o:Nat):Int)<((e:Nat):Int))<|tX 6 (((e:Nat):Int)<((lb:Nat):Int))<|sE [(213,.bool false)] fun a l=>tK<|cF 213 l<|cN ?_
        exact n0 l<|⟨G,d.done r u,af,s⟩
       ·have u:=d.right r (by omega)
        refine rS l<|tX 2 (((o:Nat):Int)<((e:Nat):Int))<|sE [(213,.bool false)] fun a l=>tK<|cF 213 l<|cN<|n0 l ?_
        exact⟨G,d.done r u,af,s⟩
     ·have d:Cut n la lm lb o i e L L:=⟨hLn,List.Perm.refl _,Idx.refl _ (jv (by omega)),hs1,hs2,ham,E,F⟩
      refine rS l<|tT 2 (((i:Nat):Int)<((lm:Nat):Int))<|tX 6 (((lm:Nat):Int)<((e:Nat):Int))<|sE [(185,.bool false)] fun a l=>tK<|cF 185 l<|cN ?_
      refine tK<|cS<|cS ?_
      rcases Nat.lt_or_ge la i with t|t
      rcases Nat.lt_or_ge i o with v|v
      ·refine rS l<|tT 2 (((la:Nat):Int)<((i:Nat):Int))<|tT 6 (((i:Nat):Int)<((o:Nat):Int))<|sE [(199,.bool true)] fun a l=>tK<|cT 199 l<|rS l ?_
       refine tG 5 (ih _ la i o L (by omega) af d.len (by omega) (by omega) (by omega) d.r1 d.r2) ?_
       rintro _ e7 ⟨X,r,p,g⟩
       replace s:=s.trans g
       clear af;have af:=p;clear p g
       refine sE [] fun a l=>tK<|cS ?_
       rcases Nat.lt_or_ge o e with t|t
       rcases Nat.lt_or_ge e lb with v|v
       ·refine rS l<|tT 2 (((o:Nat):Int)<((e:Nat):Int))<|tT 6 (((e:Nat):Int)<((lb:Nat):Int))<|sE [(213,.bool true)] fun a l=>tK<|cT 213 l<|rS l ?_
        refine tG 5 (ih _ o e lb X (by omega) af r.len (by omega) (by omega) (by omega) (d.sort r).1 (d.sort r).2) ?_
        rintro _ e8 ⟨b6,u,p,g⟩
        replace s:=s.trans g
        clear af;have af:=p;clear p g
        exact sE [] fun a l=>n0 l<|⟨b6,d.done r u,af,s⟩
       ·have u:=d.right r (by omega)
        refine rS l<|tT 2 (((o:Nat):Int)<((e:Nat):Int))<|tX 6 (((e:Nat):Int)<((lb:Nat):Int))<|sE [(213,.bool false)] fun a l=>tK<|cF 213 l<|cN ?_
        exact n0 l<|⟨X,d.done r u,af,s⟩
       ·have u:=d.right r (by omega)
        refine rS l<|tX 2 (((o:Nat):Int)<((e:Nat):Int))<|sE [(213,.bool false)] fun a l=>tK<|cF 213 l<|cN<|n0 l ?_
        exact⟨X,d.done r u,af,s⟩
      ·have r:=d.left (by omega)
       refine rS l<|tT 2 (((la:Nat):Int)<((i:Nat):Int))<|tX 6 (((i:Nat):Int)<((o:Nat):Int))<|sE [(199,.bool false)] fun a l=>tK<|cF 199 l<|cN ?_
       refine tK<|cS ?_
       rcases Nat.lt_or_ge o e with t|t
       rcases Nat.lt_or_ge e lb with v|v
       ·refine rS l<|tT 2 (((o:Nat):Int)<((e:Nat):Int))<|tT 6 (((e:Nat):Int)<((lb:Nat):Int))<|sE [(213,.bool true)] fun a l=>tK<|cT 213 l<|rS l ?_
        refine tG 5 (ih _ o e lb L (by omega) af r.len (by omega) (by omega) (by omega) (d.sort r).1 (d.sort r).2) ?_
        rintro _ e9 ⟨b7,u,p,g⟩
        replace s:=s.trans g
        clear af;have af:=p;clear p g
        exact sE [] fun a l=>n0 l<|⟨b7,d.done r u,af,s⟩
       ·have u:=d.right r (by omega)
        refine rS l<|tT 2 (((o:Nat):Int)<((e:Nat):Int))<|tX 6 (((e:Nat):Int)<((lb:Nat):Int))<|sE [(213,.bool false)] fun a l=>tK<|cF 213 l<|cN ?_
        exact n0 l<|⟨L,d.done r u,af,s⟩
       ·have u:=d.right r (by omega)
        refine rS l<|tX 2 (((o:Nat):Int)<((e:Nat):Int))<|sE [(213,.bool false)] fun a l=>tK<|cF 213 l<|cN<|n0 l ?_
        exact⟨L,d.done r u,af,s⟩
      ·have r:=d.left (by omega)
       refine rS l<|tX 2 (((la:Nat):Int)<((i:Nat):Int))<|sE [(199,.bool false)] fun a l=>tK<|cF 199 l<|cN<|tK ?_
       refine cS ?_
       rcases Nat.lt_or_ge o e with t|t
       rcases Nat.lt_or_ge e lb with v|v
       ·refine rS l<|tT 2 (((o:Nat):Int)<((e:Nat):Int))<|tT 6 (((e:Nat):Int)<((lb:Nat):Int))<|sE [(213,.bool true)] fun a l=>tK<|cT 213 l<|rS l ?_
        refine tG 5 (ih _ o e lb L (by omega) af r.len (by omega) (by omega) (by omega) (d.sort r).1 (d.sort r).2) ?_
        rintro _ f0 ⟨b8,u,p,g⟩
        replace s:=s.trans g
        clear af;have af:=p;clear p g
        exact sE [] fun a l=>n0 l<|⟨b8,d.done r u,af,s⟩
       ·have u:=d.right r (by omega)
        refine rS l<|tT 2 (((o:Nat):Int)<((e:Nat):Int))<|tX 6 (((e:Nat):Int)<((lb:Nat):Int))<|sE [(213,.bool false)] fun a l=>tK<|cF 213 l<|cN ?_
        exact n0 l<|⟨L,d.done r u,af,s⟩
       ·have u:=d.right r (by omega)
        refine rS l<|tX 2 (((o:Nat):Int)<((e:Nat):Int))<|sE [(213,.bool false)] fun a l=>tK<|cF 213 l<|cN<|n0 l ?_
        exact⟨L,d.done r u,af,s⟩
     ·have d:Cut n la lm lb o i e L L:=⟨hLn,List.Perm.refl _,Idx.refl _ (jv (by omega)),hs1,hs2,ham,E,F⟩
      refine rS l<|tX 2 (((i:Nat):Int)<((lm:Nat):Int))<|sE [(185,.bool false)] fun a l=>tK<|cF 185 l<|cN<|tK ?_
      refine cS<|cS ?_
      rcases Nat.lt_or_ge la i with t|t
      rcases Nat.lt_or_ge i o with v|v
      ·refine rS l<|tT 2 (((la:Nat):Int)<((i:Nat):Int))<|tT 6 (((i:Nat):Int)<((o:Nat):Int))<|sE [(199,.bool true)] fun a l=>tK<|cT 199 l<|rS l ?_
       refine tG 5 (ih _ la i o L (by omega) af d.len (by omega) (by omega) (by omega) d.r1 d.r2) ?_
       rintro _ f1 ⟨Y,r,p,g⟩
       replace s:=s.trans g
       clear af;have af:=p;clear p g
       refine sE [] fun a l=>tK<|cS ?_
       rcases Nat.lt_or_ge o e with t|t
       rcases Nat.lt_or_ge e lb with v|v
       ·refine rS l<|tT 2 (((o:Nat):Int)<((e:Nat):Int))<|tT 6 (((e:Nat):Int)<((lb:Nat):Int))<|sE [(213,.bool true)] fun a l=>tK<|cT 213 l<|rS l ?_
        refine tG 5 (ih _ o e lb Y (by omega) af r.len (by omega) (by omega) (by omega) (d.sort r).1 (d.sort r).2) ?_
        rintro _ f2 ⟨c0,u,p,g⟩
        replace s:=s.trans g
        clear af;have af:=p;clear p g
        exact sE [] fun a l=>n0 l<|⟨c0,d.done r u,af,s⟩
       ·have u:=d.right r (by omega)
        refine rS l<|tT 2 (((o:Nat):Int)<((e:Nat):Int))<|tX 6 (((e:Nat):Int)<((lb:Nat):Int))<|sE [(213,.bool false)] fun a l=>tK<|cF 213 l<|cN ?_
        exact n0 l<|⟨Y,d.done r u,af,s⟩
       ·have u:=d.right r (by omega)
        refine rS l<|tX 2 (((o:Nat):Int)<((e:Nat):Int))<|sE [(213,.bool false)] fun a l=>tK<|cF 213 l<|cN<|n0 l ?_
        exact⟨Y,d.done r u,af,s⟩
      ·have r:=d.left (by omega)
       refine rS l<|tT 2 (((la:Nat):Int)<((i:Nat):Int))<|tX 6 (((i:Nat):Int)<((o:Nat):Int))<|sE [(199,.bool false)] fun a l=>tK<|cF 199 l<|cN ?_
       refine tK<|cS ?_
       rcases Nat.lt_or_ge o e with t|t
       rcases Nat.lt_or_ge e lb with v|v
       ·refine rS l<|tT 2 (((o:Nat):Int)<((e:Nat):Int))<|tT 6 (((e:Nat):Int)<((lb:Nat):Int))<|sE [(213,.bool true)] fun a l=>tK<|cT 213 l<|rS l ?_
        refine tG 5 (ih _ o e lb L (by omega) af r.len (by omega) (by omega) (by omega) (d.sort r).1 (d.sort r).2) ?_
        rintro _ f3 ⟨c1,u,p,g⟩
        replace s:=s.trans g
        clear af;have af:=p;clear p g
        exact sE [] fun a l=>n0 l<|⟨c1,d.done r u,af,s⟩
       ·have u:=d.right r (by omega)
        refine rS l<|tT 2 (((o:Nat):Int)<((e:Nat):Int))<|tX 6 (((e:Nat):Int)<((lb:Nat):Int))<|sE [(213,.bool false)] fun a l=>tK<|cF 213 l<|cN ?_
        exact n0 l<|⟨L,d.done r u,af,s⟩
       ·have u:=d.right r (by omega)
        refine rS l<|tX 2 (((o:Nat):Int)<((e:Nat):Int))<|sE [(213,.bool false)] fun a l=>tK<|cF 213 l<|cN<|n0 l ?_
        exact⟨L,d.done r u,af,s⟩
      ·have r:=d.left (by omega)
       refine rS l<|tX 2 (((la:Nat):Int)<((i:Nat):Int))<|sE [(199,.bool false)] fun a l=>tK<|cF 199 l<|cN<|tK ?_
       refine cS ?_
       rcases Nat.lt_or_ge o e with t|t
       rcases Nat.lt_or_ge e lb with v|v
       ·refine rS l<|tT 2 (((o:Nat):Int)<((e:Nat):Int))<|tT 6 (((e:Nat):Int)<((lb:Nat):Int))<|sE [(213,.bool true)] fun a l=>tK<|cT 213 l<|rS l ?_
        refine tG 5 (ih _ o e lb L (by omega) af r.len (by omega) (by omega) (by omega) (d.sort r).1 (d.sort r).2) ?_
        rintro _ f4 ⟨c2,u,p,g⟩
        replace s:=s.trans g
        clear af;have af:=p;clear p g
        exact sE [] fun a l=>n0 l<|⟨c2,d.done r u,af,s⟩
       ·have u:=d.right r (by omega)
        refine rS l<|tT 2 (((o:Nat):Int)<((e:Nat):Int))<|tX 6 (((e:Nat):Int)<((lb:Nat):Int))<|sE [(213,.bool false)] fun a l=>tK<|cF 213 l<|cN ?_
        exact n0 l<|⟨L,d.done r u,af,s⟩
       ·have u:=d.right r (by omega)
        refine rS l<|tX 2 (((o:Nat):Int)<((e:Nat):Int))<|sE [(213,.bool false)] fun a l=>tK<|cF 213 l<|cN<|n0 l ?_
        exact⟨L,d.done r u,af,s⟩
   ·refine qP [(20,nV la)] l fun a l=>rP [(21,nV lm)] l fun a l=>tK<|qS l<|tU 1 (o+lm) 1<|sT [(22,nV ((o+lm) - 1))] fun a l=> ?_
    obtain⟨N,b0⟩:∃x,la=x:=⟨_,rfl⟩;obtain⟨r0,b1⟩:∃x,lm=x:=⟨_,rfl⟩
    refine cS<|cB 8<|cL (fun m a h'=>∃i:Nat,∃j:Nat,m=j - i∧(Grew (ad.map (fun(x:Addr)=>x.block)) h h')∧(N≤i∧i≤j∧j≤r0)∧(i=N∨¬fo (L.getD (o+lm - 1 - (i - 1)) ah) (L.getD (i - 1) ah)<0)∧(j=r0∨fo (L.getD (o+lm - 1 - (j)) ah) (L.getD (j) ah)<0)∧(Own h' (.slice ad n cap) 95 n 39 (a_ L))∧(Fr a 220 [(0,.slice ad n cap),(1,.int .i64 ((la:Nat):Int)),(2,.int .i64 ((lm:Nat):Int)),(3,.int .i64 ((lb:Nat):Int)),(4,.func (.func 107) #[] #[]),(18,.int .i64 ((o:Nat):Int)),(19,.int .i64 ((o+lm:Nat):Int)),(20,.int .i64 ((i:Nat):Int)),(21,.int .i64 ((j:Nat):Int)),(22,.int .i64 (((o+lm) - 1:Nat):Int))])) (lm - la) ⟨la,lm,rfl,s,(by omega),(.inl (by omega)),(.inl (by omega)),af,l.to⟩ ?_
    clear l a
    clear s
    clear af
    rintro m a f5 ⟨i,j,rfl,s,S,C,D,af,l⟩
    refine cS<|qP [(151,.bool (decide (((i:Nat):Int)<((j:Nat):Int))))] l fun a l=>cJ 151 l (fun a7=> ?_) fun a7=> ?_
    ·obtain⟨A,rfl,B⟩:=af.bf (by omega)
     refine cN<|tK<|cB 9<|qS l<|tA 2 i j<|t1 3 (.int .u64 ((i+j:Nat):Int)) (.int .u64 (IntKind.u64.wrap ((i+j:Nat):Int))) (congrArg (Value.int .u64) (mW (by omega)))<|t1 4 (.int .u64 (((i+j)/2^1:Nat):Int)) (.int .u64 (Int.fdiv ((i+j:Nat):Int) (2^1))) (congrArg (Value.int .u64) (bM (i+j) 1)) ?_
     refine t1 5 (.int .i64 (((i+j)/2^1:Nat):Int)) (.int .i64 (IntKind.i64.wrap (((i+j)/2^1:Nat):Int))) (congrArg (Value.int .i64) (kg (by omega) (by omega)))<|sT [(23,nV ((i+j)/2^1))] fun a l=> ?_
     obtain⟨c,T⟩:∃x,(i+j)/2^1=x:=⟨_,rfl⟩;rw[T] at l
     have U:i≤c∧c<j:=by omega
     refine cS<|cD [0,0,0,0,12,30,62,0,0,384,896,2047,4095,8191] 35 mixed l<|mP 15 [0,1,2,3] [.func (.func 107) #[] #[],.slice (some A) n cap,nV ((o+lm) - 1),nV c]<|mU 31 4 ((o+lm) - 1) c<|mI 63 5 A n 39 (((o+lm) - 1) - c) ((((o+lm) - 1) - c)*39)<|mY 127 64 6 (((o+lm) - 1) - c) ah bk (af.row)<|mP 511 [7,8] [.slice (some A) n cap,nV c] ?_
     refine mI 1023 9 A n 39 c (c*39)<|mY 2047 1088 10 c ah bk (af.row)<|i' 4095 4095 11 (Does.call (f:=107) (args:= #[.agg (rcs (L.getD (((o+lm) - 1) - c) ah)).toArray,.agg (rcs (L.getD c ah)).toArray]) (by kernel_rfl) (gZ _ (L.getD (((o+lm) - 1) - c) ah) (L.getD c ah))) ?_
     rintro _ f6 ⟨rfl,g⟩
     replace s:=s.trans (g.but _)
     replace af:=af.ext g
     clear g
     refine mP 16383 [12,13] [.bool (decide ((fo (L.getD (((o+lm) - 1) - c) ah) (L.getD c ah))<(0:Int))),.bool (!(decide ((fo (L.getD (((o+lm) - 1) - c) ah) (L.getD c ah))<(0:Int))))]<|mE [(171,.bool (!(decide ((fo (L.getD (((o+lm) - 1) - c) ah) (L.getD c ah))<(0:Int)))))] fun a l=>tK<|cC 171 (!(decide ((fo (L.getD (((o+lm) - 1) - c) ah) (L.getD c ah))<(0:Int)))) l (fun K=> ?_) (fun K=> ?_)
     ·have w:c+1=N∨¬fo (L.getD (o+lm - 1 - (c+1 - 1)) ah) (L.getD (c+1 - 1) ah)<0:= .inr (by rw[show o+lm - 1 - (c+1 - 1)=o+lm - 1 - c by omega];simpa using K)
      have y:=D
      refine rS l<|tA 1 c 1<|sE [(20,nV (c+1))] fun a l=>bK ?_
      show ∃m',m'<_∧_
      refine⟨_,?_,c+1,j,rfl,s,(by omega),w,y,af,l.to⟩
      omega
     ·have y:c=r0∨fo (L.getD (o+lm - 1 - (c)) ah) (L.getD (c) ah)<0:= .inr (by simpa using K)
      have w:=C
      refine rP [(21,nV c)] l fun a l=>bK ?_
      show ∃m',m'<_∧_
      refine⟨_,?_,i,c,rfl,s,(by omega),w,y,af,l.to⟩
      omega
    ·obtain rfl:i=j:=by omega
     refine cX 8 (xT (xT (xB ?_)))
     refine tK<|qS l<|tU 2 (o+lm) i<|sT [(24,nV ((o+lm) - i))] fun a l=> ?_
     obtain⟨e,he⟩:∃x,(o+lm) - i=x:=⟨_,rfl⟩;rw[he] at l
     have ham:la≤i∧i≤lm∧lm≤e∧e≤lb∧i≤o∧o≤e∧i+e=o+lm:=by omega
     have E:i=la∨e=lb∨gy (L.getD (i - 1) ah) (L.getD e ah):=by
      rcases C with z|z
      ·omega
      ·by_cases hi0:i=la
       ·exact .inl hi0
       ·rw[show o+lm - 1 - (i - 1)=e by omega] at z;exact .inr (.inr (ei z))
     have F:i=lm∨i=o∨gy (L.getD (e - 1) ah) (L.getD i ah):=by
      rcases D with z|z
      ·omega
      ·rw[show o+lm - 1 - i=e - 1 by omega] at z;exact .inr (.inr (fQ z))
     refine cS<|cS ?_
     rcases Nat.lt_or_ge i lm with t|t
     rcases Nat.lt_or_ge lm e with v|v
     ·refine rS l<|tT 2 (((i:Nat):Int)<((lm:Nat):Int))<|tT 6 (((lm:Nat):Int)<((e:Nat):Int))<|sE [(185,.bool true)] fun a l=>tK<|cT 185 l<|rS l ?_
      refine tG 5 (uo _ ad cap n i lm e L af hLn (by omega) (by omega) (by omega) (by omega)) ?_
      rintro _ f7 ⟨H,O,P,Q,p,g⟩
      replace s:=s.trans g
      clear af;have af:=p;clear p g
      have d:Cut n la lm lb o i e L H:=⟨O,P,Q,hs1,hs2,ham,E,F⟩
      refine sE [] fun a l=>tK<|cS<|cS ?_
      rcases Nat.lt_or_ge la i with t|t
      rcases Nat.lt_or_ge i o with v|v
      ·refine rS l<|tT 2 (((la:Nat):Int)<((i:Nat):Int))<|tT 6 (((i:Nat):Int)<((o:Nat):Int))<|sE [(199,.bool true)] fun a l=>tK<|cT 199 l<|rS l ?_
       refine tG 5 (ih _ la i o H (by omega) af d.len (by omega) (by omega) (by omega) d.r1 d.r2) ?_
       rintro _ f8 ⟨Z,r,p,g⟩
       replace s:=s.trans g
       clear af;have af:=p;clear p g
       refine sE [] fun a l=>tK<|cS ?_
       rcases Nat.lt_or_ge o e with t|t
       rcases Nat.lt_or_ge e lb with v|v
       ·refine rS l<|tT 2 (((o:Nat):Int)<((e:Nat):Int))<|tT 6 (((e:Nat):Int)<((lb:Nat):Int))<|sE [(213,.bool true)] fun a l=>tK<|cT 213 l<|rS l ?_
        refine tG 5 (ih _ o e lb Z (by omega) af r.len (by omega) (by omega) (by omega) (d.sort r).1 (d.sort r).2) ?_
        rintro _ f9 ⟨c3,u,p,g⟩
        replace s:=s.trans g
        clear af;have af:=p;clear p g
        exact sE [] fun a l=>n0 l<|⟨c3,d.done r u,af,s⟩
       ·have u:=d.right r (by omega)
        refine rS l<|tT 2 (((o:Nat):Int)<((e:Nat):Int))<|tX 6 (((e:Nat):Int)<((lb:Nat):Int))<|sE [(213,.bool false)] fun a l=>tK<|cF 213 l<|cN ?_
        exact n0 l<|⟨Z,d.done r u,af,s⟩
       ·have u:=d.right r (by omega)
        refine rS l<|tX 2 (((o:Nat):Int)<((e:Nat):Int))<|sE [(213,.bool false)] fun a l=>tK<|cF 213 l<|cN<|n0 l ?_
        exact⟨Z,d.done r u,af,s⟩
      ·have r:=d.left (by omega)
       refine rS l<|tT 2 (((la:Nat):Int)<((i:Nat):Int))<|tX 6 (((i:Nat):Int)<((o:Nat):Int))<|sE [(199,.bool false)] fun a l=>tK<|cF 199 l<|cN ?_
       refine tK<|cS ?_
       rcases Nat.lt_or_ge o e with t|t
       rcases Nat.lt_or_ge e lb with v|v
       ·refine rS l<|tT 2 (((o:Nat):Int)<((e:Nat):Int))<|tT 6 (((e:Nat):Int)<((lb:Nat):Int))<|sE [(213,.bool true)] fun a l=>tK<|cT 213 l<|rS l ?_
        refine tG 5 (ih _ o e lb H (by omega) af r.len (by omega) (by omega) (by omega) (d.sort r).1 (d.sort r).2) ?_
        rintro _ g1 ⟨c4,u,p,g⟩
        replace s:=s.trans g
        clear af;have af:=p;clear p g
        exact sE [] fun a l=>n0 l<|⟨c4,d.done r u,af,s⟩
       ·have u:=d.right r (by omega)
        refine rS l<|tT 2 (((o:Nat):Int)<((e:Nat):Int))<|tX 6 (((e:Nat):Int)<((lb:Nat):Int))<|sE [(213,.bool false)] fun a l=>tK<|cF 213 l<|cN ?_
        exact n0 l<|⟨H,d.done r u,af,s⟩
       ·have u:=d.right r (by omega)
        refine rS l<|tX 2 (((o:Nat):Int)<((e:Nat):Int))<|sE [(213,.bool false)] fun a l=>tK<|cF 213 l<|cN<|n0 l ?_
        exact⟨H,d.done r u,af,s⟩
      ·have r:=d.left (by omega)
       refine rS l<|tX 2 (((la:Nat):Int)<((i:Nat):Int))<|sE [(199,.bool false)] fun a l=>tK<|cF 199 l<|cN<|tK ?_
       refine cS ?_
       rcases Nat.lt_or_ge o e with t|t
       rcases Nat.lt_or_ge e lb with v|v
       ·refine rS l<|tT 2 (((o:Nat):Int)<((e:Nat):Int))<|tT 6 (((e:Nat):Int)<((lb:Nat):Int))<|sE [(213,.bool true)] fun a l=>tK<|cT 213 l<|rS l ?_
        refine tG 5 (ih _ o e lb H (by omega) af r.len (by omega) (by omega) (by omega) (d.sort r).1 (d.sort r).2) ?_
        rintro _ g2 ⟨c5,u,p,g⟩
        replace s:=s.trans g
        clear af;have af:=p;clear p g
        exact sE [] fun a l=>n0 l<|⟨c5,d.done r u,af,s⟩
       ·have u:=d.right r (by omega)
        refine rS l<|tT 2 (((o:Nat):Int)<((e:Nat):Int))<|tX 6 (((e:Nat):Int)<((lb:Nat):Int))<|sE [(213,.bool false)] fun a l=>tK<|cF 213 l<|cN ?_
        exact n0 l<|⟨H,d.done r u,af,s⟩
       ·have u:=d.right r (by omega)
        refine rS l<|tX 2 (((o:Nat):Int)<((e:Nat):Int))<|sE [(213,.bool false)] fun a l=>tK<|cF 213 l<|cN<|n0 l ?_
        exact⟨H,d.done r u,af,s⟩
     ·have d:Cut n la lm lb o i e L L:=⟨hLn,List.Perm.refl _,Idx.refl _ (jv (by omega)),hs1,hs2,ham,E,F⟩
      refine rS l<|tT 2 (((i:Nat):Int)<((lm:Nat):Int))<|tX 6 (((lm:Nat):Int)<((e:Nat):Int))<|sE [(185,.bool false)] fun a l=>tK<|cF 185 l<|cN ?_
      refine tK<|cS<|cS ?_
      rcases Nat.lt_or_ge la i with t|t
      rcases Nat.lt_or_ge i o with v|v
      ·refine rS l<|tT 2 (((la:Nat):Int)<((i:Nat):Int))<|tT 6 (((i:Nat):Int)<((o:Nat):Int))<|sE [(199,.bool true)] fun a l=>tK<|cT 199 l<|rS l ?_
       refine tG 5 (ih _ la i o L (by omega) af d.len (by omega) (by omega) (by omega) d.r1 d.r2) ?_
       rintro _ g3 ⟨fZ,r,p,g⟩
       replace s:=s.trans g
       clear af;have af:=p;clear p g
       refine sE [] fun a l=>tK<|cS ?_
       rcases Nat.lt_or_ge o e with t|t
       rcases Nat.lt_or_ge e lb with v|v
       ·refine rS l<|tT 2 (((o:Nat):Int)<((e:Nat):Int))<|tT 6 (((e:Nat):Int)<((lb:Nat):Int))<|sE [(213,.bool true)] fun a l=>tK<|cT 213 l<|rS l ?_
        refine tG 5 (ih _ o e lb fZ (by omega) af r.len (by omega) (by omega) (by omega) (d.sort r).1 (d.sort r).2) ?_
        rintro _ g4 ⟨c6,u,p,g⟩
        replace s:=s.trans g
        clear af;have af:=p;clear p g
        exact sE [] fun a l=>n0 l<|⟨c6,d.done r u,af,s⟩
       ·have u:=d.right r (by omega)
        refine rS l<|tT 2 (((o:Nat):Int)<((e:Nat):Int))<|tX 6 (((e:Nat):Int)<((lb:Nat):Int))<|sE [(213,.bool false)] fun a l=>tK<|cF 213 l<|cN ?_
        exact n0 l<|⟨fZ,d.done r u,af,s⟩
       ·have u:=d.right r (by omega)
        refine rS l<|tX 2 (((o:Nat):Int)<((e:Nat):Int))<|sE [(213,.bool false)] fun a l=>tK<|cF 213 l<|cN<|n0 l ?_
        exact⟨fZ,d.done r u,af,s⟩
      ·have r:=d.left (by omega)
       refine rS l<|tT 2 (((la:Nat):Int)<((i:Nat):Int))<|tX 6 (((i:Nat):Int)<((o:Nat):Int))<|sE [(199,.bool false)] fun a l=>tK<|cF 199 l<|cN ?_
       refine tK<|cS ?_
       rcases Nat.lt_or_ge o e with t|t
       rcases Nat.lt_or_ge e lb with v|v
       ·refine rS l<|tT 2 (((o:Nat):Int)<((e:Nat):Int))<|tT 6 (((e:Nat):Int)<((lb:Nat):Int))<|sE [(213,.bool true)] fun a l=>tK<|cT 213 l<|rS l ?_
        refine tG 5 (ih _ o e lb L (by omega) af r.len (by omega) (by omega) (by omega) (d.sort r).1 (d.sort r).2) ?_
        rintro _ g5 ⟨c7,u,p,g⟩
        replace s:=s.trans g
        clear af;have af:=p;clear p g
        exact sE [] fun a l=>n0 l<|⟨c7,d.done r u,af,s⟩
       ·have u:=d.right r (by omega)
        refine rS l<|tT 2 (((o:Nat):Int)<((e:Nat):Int))<|tX 6 (((e:Nat):Int)<((lb:Nat):Int))<|sE [(213,.bool false)] fun a l=>tK<|cF 213 l<|cN ?_
        exact n0 l<|⟨L,d.done r u,af,s⟩
       ·have u:=d.right r (by omega)
        refine rS l<|tX 2 (((o:Nat):Int)<((e:Nat):Int))<|sE [(213,.bool false)] fun a l=>tK<|cF 213 l<|cN<|n0 l ?_
        exact⟨L,d.done r u,af,s⟩
      ·have r:=d.left (by omega)
       refine rS l<|tX 2 (((la:Nat):Int)<((i:Nat):Int))<|sE [(199,.bool false)] fun a l=>tK<|cF 199 l<|cN<|tK ?_
       refine cS ?_
       rcases Nat.lt_or_ge o e with t|t
       rcases Nat.lt_or_ge e lb with v|v
       ·refine rS l<|tT 2 (((o:Nat):Int)<((e:Nat):Int))<|tT 6 (((e:Nat):Int)<((lb:Nat):Int))<|sE [(213,.bool true)] fun a l=>tK<|cT 213 l<|rS l ?_
        refine tG 5 (ih _ o e lb L (by omega) af r.len (by omega) (by omega) (by omega) (d.sort r).1 (d.sort r).2) ?_
        rintro _ g6 ⟨c8,u,p,g⟩
        replace s:=s.trans g
        clear af;have af:=p;clear p g
        exact sE [] fun a l=>n0 l<|⟨c8,d.done r u,af,s⟩
       ·have u:=d.right r (by omega)
        refine rS l<|tT 2 (((o:Nat):Int)<((e:Nat):Int))<|tX 6 (((e:Nat):Int)<((lb:Nat):Int))<|sE [(213,.bool false)] fun a l=>tK<|cF 213 l<|cN ?_
        exact n0 l<|⟨L,d.done r u,af,s⟩
       ·have u:=d.right r (by omega)
        refine rS l<|tX 2 (((o:Nat):Int)<((e:Nat):Int))<|sE [(213,.bool false)] fun a l=>tK<|cF 213 l<|cN<|n0 l ?_
        exact⟨L,d.done r u,af,s⟩
     ·have d:Cut n la lm lb o i e L L:=⟨hLn,List.Perm.refl _,Idx.refl _ (jv (by omega)),hs1,hs2,ham,E,F⟩
      refine rS l<|tX 2 (((i:Nat):Int)<((lm:Nat):Int))<|sE [(185,.bool false)] fun a l=>tK<|cF 185 l<|cN<|tK ?_
      refine cS<|cS ?_
      rcases Nat.lt_or_ge la i with t|t
      rcases Nat.lt_or_ge i o with v|v
      ·refine rS l<|tT 2 (((la:Nat):Int)<((i:Nat):Int))<|tT 6 (((i:Nat):Int)<((o:Nat):Int))<|sE [(199,.bool true)] fun a l=>tK<|cT 199 l<|rS l ?_
       refine tG 5 (ih _ la i o L (by omega) af d.len (by omega) (by omega) (by omega) d.r1 d.r2) ?_
       rintro _ g7 ⟨a0,r,p,g⟩
       replace s:=s.trans g
       clear af;have af:=p;clear p g
       refine sE [] fun a l=>tK<|cS ?_
       rcases Nat.lt_or_ge o e with t|t
       rcases Nat.lt_or_ge e lb with v|v
       ·refine rS l<|tT 2 (((o:Nat):Int)<((e:Nat):Int))<|tT 6 (((e:Nat):Int)<((lb:Nat):Int))<|sE [(213,.bool true)] fun a l=>tK<|cT 213 l<|rS l ?_
        refine tG 5 (ih _ o e lb a0 (by omega) af r.len (by omega) (by omega) (by omega) (d.sort r).1 (d.sort r).2) ?_
        rintro _ g8 ⟨c9,u,p,g⟩
        replace s:=s.trans g
        clear af;have af:=p;clear p g
        exact sE [] fun a l=>n0 l<|⟨c9,d.done r u,af,s⟩
       ·have u:=d.right r (by omega)
        refine rS l<|tT 2 (((o:Nat):Int)<((e:Nat):Int))<|tX 6 (((e:Nat):Int)<((lb:Nat):Int))<|sE [(213,.bool false)] fun a l=>tK<|cF 213 l<|cN ?_
        exact n0 l<|⟨a0,d.done r u,af,s⟩
       ·have u:=d.right r (by omega)
        refine rS l<|tX 2 (((o:Nat):Int)<((e:Nat):Int))<|sE [(213,.bool false)] fun a l=>tK<|cF 213 l<|cN<|n0 l ?_
        exact⟨a0,d.done r u,af,s⟩
      ·have r:=d.left (by omega)
       refine rS l<|tT 2 (((la:Nat):Int)<((i:Nat):Int))<|tX 6 (((i:Nat):Int)<((o:Nat):Int))<|sE [(199,.bool false)] fun a l=>tK<|cF 199 l<|cN ?_
       refine tK<|cS ?_
       rcases Nat.lt_or_ge o e with t|t
       rcases Nat.lt_or_ge e lb with v|v
       ·refine rS l<|tT 2 (((o:Nat):Int)<((e:Nat):Int))<|tT 6 (((e:Nat):Int)<((lb:Nat):Int))<|sE [(213,.bool true)] fun a l=>tK<|cT 213 l<|rS l ?_
        refine tG 5 (ih _ o e lb L (by omega) af r.len (by omega) (by omega) (by omega) (d.sort r).1 (d.sort r).2) ?_
        rintro _ g9 ⟨d0,u,p,g⟩
        replace s:=s.trans g
        clear af;have af:=p;clear p g
        exact sE [] fun a l=>n0 l<|⟨d0,d.done r u,af,s⟩
       ·have u:=d.right r (by omega)
        refine rS l<|tT 2 (((o:Nat):Int)<((e:Nat):Int))<|tX 6 (((e:Nat):Int)<((lb:Nat):Int))<|sE [(213,.bool false)] fun a l=>tK<|cF 213 l<|cN ?_
        exact n0 l<|⟨L,d.done r u,af,s⟩
       ·have u:=d.right r (by omega)
        refine rS l<|tX 2 (((o:Nat):Int)<((e:Nat):Int))<|sE [(213,.bool false)] fun a l=>tK<|cF 213 l<|cN<|n0 l ?_
        exact⟨L,d.done r u,af,s⟩
      ·have r:=d.left (by omega)
       refine rS l<|tX 2 (((la:Nat):Int)<((i:Nat):Int))<|sE [(199,.bool false)] fun a l=>tK<|cF 199 l<|cN<|tK ?_
       refine cS ?_
       rcases Nat.lt_or_ge o e with t|t
       rcases Nat.lt_or_ge e lb with v|v
       ·refine rS l<|tT 2 (((o:Nat):Int)<((e:Nat):Int))<|tT 6 (((e:Nat):Int)<((lb:Nat):Int))<|sE [(213,.bool true)] fun a l=>tK<|cT 213 l<|rS l ?_
        refine tG 5 (ih _ o e lb L (by omega) af r.len (by omega) (by omega) (by omega) (d.sort r).1 (d.sort r).2) ?_
        rintro _ i0 ⟨d1,u,p,g⟩
        replace s:=s.trans g
        clear af;have af:=p;clear p g
        exact sE [] fun a l=>n0 l<|⟨d1,d.done r u,af,s⟩
       ·have u:=d.right r (by omega)
        refine rS l<|tT 2 (((o:Nat):Int)<((e:Nat):Int))<|tX 6 (((e:Nat):Int)<((lb:Nat):Int))<|sE [(213,.bool false)] fun a l=>tK<|cF 213 l<|cN ?_
        exact n0 l<|⟨L,d.done r u,af,s⟩
       ·have u:=d.right r (by omega)
        refine rS l<|tX 2 (((o:Nat):Int)<((e:Nat):Int))<|sE [(213,.bool false)] fun a l=>tK<|cF 213 l<|cN<|n0 l ?_
        exact⟨L,d.done r u,af,s⟩
theorem uq(ad:Option Addr)(cap n:Nat)(hn:n≤1099511627776):∀(k:Nat),∀(h:Heap) (a m b:Nat) (L:List Rec),b - a≤k→Own h (.slice ad n cap) 95 n 39 (a_ L)→L.length =n→a<m→m<b→b≤n→bx L a m→bx L m b→Sat Tryz.prog 140 #[.slice ad n cap,.int .i64 ((a:Nat):Int),.int .i64 ((m:Nat):Int),.int .i64 ((b:Nat):Int),.func (.func 107) #[] #[]] h fun _ h'=>∃M,pJ n a b L M∧Own h' (.slice ad n cap) 95 n 39 (a_ M)∧Grew (ad.map (fun(x:Addr)=>x.block)) h h'
 |0,_,_,_,_,_,hk,_,_,h1,h2,_,_,_=>by omega
 |k+1,h,a,m,b,L,hk,o,hL,h1,h2,h3,h4,h5=>xF h ad cap n a m b L o hL h1 h2 h3 hn h4 h5 fun h a' m' b' L hlt=>uq ad cap n hn k h a' m' b' L (by omega)
theorem ur(ad:Option Addr)(cap n:Nat)(hn:n≤1099511627776):∀(h:Heap) (a m b:Nat) (L:List Rec),Own h (.slice ad n cap) 95 n 39 (a_ L)→L.length =n→a<m→m<b→b≤n→bx L a m→bx L m b→Sat Tryz.prog 140 #[.slice ad n cap,.int .i64 ((a:Nat):Int),.int .i64 ((m:Nat):Int),.int .i64 ((b:Nat):Int),.func (.func 107) #[] #[]] h fun _ h'=>∃M,pJ n a b L M∧Own h' (.slice ad n cap) 95 n 39 (a_ M)∧Grew (ad.map (fun(x:Addr)=>x.block)) h h':=fun h a m b L=>uq ad cap n hn (b - a) h a m b L (Nat.le_refl _)
end Go.Proofs.YtegkejcglfgpmaaGreatDoor
end
