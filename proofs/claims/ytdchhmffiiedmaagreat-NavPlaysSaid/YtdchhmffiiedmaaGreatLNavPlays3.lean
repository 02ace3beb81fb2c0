/- A navigator answers, whatever the inertial sensor and the aids tell, what the document says: the law returns true for every input, and leaves its arguments as they were. -/
import Derived.Test.YtdchhmffiiedmaaGreatLNavPlays
import Derived.Test.YtdchhmffiiedmaaGreatLNavPlays2
import Derived.KernelRfl
import Derived.Tactics2
import Derived.LoopTactic
import Derived.WalkKit
import Derived.Deep.DeepCutAuto
import Derived.Deep.RegionHeld3
import Derived.Deep.AppendLies
import Derived.Deep.MidRow
import Derived.Maps.RangeRun
import Derived.Maps.OwnOps
import Derived.Maps.RangeWalk
set_option linter.unusedVariables false
set_option linter.unusedSimpArgs false
set_option maxRecDepth 100000
set_option maxHeartbeats 64000000
open Go.IntKind (wrap)
namespace Go.Xv
def zq5:Cfg:=⟨[0,1,2,3,4,6,7,9,10,11,20,28],[(0,[0,1,2,3,4,7,8,9,10,22,23,24,25,26,27,28,29,30])],[15,16],[]⟩
def zlR:Sg:=⟨[.v (.agg [.i,.i,.i])],.v (.tup [.i,.bool])⟩
def zq6(zbu ye:Qi)(zv:Qi4)(zbd za7:jQ)(F:Nat):=zS [(185,zz zq3 ki zbu F),(184,zz zfY ki ye F),(101,zz zdS ki4 zv F),(186,zz znD ki2 zbd F),(187,zz znS ki2 za7 F)]
def zh1:TS:=⟨[(0,.v (.agg [.i,.i,.i])),(1,.lp 0 (.lit 0)),(2,.i),(3,.v (.bool)),(4,.lp 1 (.lit 0)),(9,.v (.agg [.i,.i,.i])),(10,.i)],[(0,⟨(.ex [.i,.i,.i]),true⟩),(1,⟨(.ex [.i,.v (.int .u64)]),true⟩)],2⟩
def zxk:TS:=⟨[(0,.v (.agg [.i,.i,.i])),(1,.lp 0 (.lit 0)),(2,.i),(3,.v (.bool)),(4,.lp 1 (.lit 0)),(6,.i),(9,.v (.agg [.i,.i,.i])),(10,.i)],[(0,⟨(.ex [.i,.i,.i]),true⟩),(1,⟨(.ex [.i,.v (.int .u64)]),true⟩)],2⟩
def zxl:TS:=zh1
def zdv(zbu ye:Qi)(zv:Qi4)(zbd:jQ)(F:Nat)(A:FT zhe)(p:FT zqa)(s:FT zhe):FT zhe:=fun t u w r j g h l c x d e a b=>bif(decide (c<3))then bif(((decide (0<=c))&&(decide (c<3)))&&((isI .i64 [.v (.i g),.v (.i h),.v (.i l)][((Int.toNat c)*1)]?)&&true))then let y:Int:=iv [.v (.i g),.v (.i h),.v (.i l)][((Int.toNat c)*1)]?;bif(zbu.ok F y)then let z:Int:=zbu.i 0 F y;bif(ye.ok F z)then let f:Int:=ye.i 0 F z;let n:Int:=ye.i 1 F z;bif(zv.ok F a b f n)then let m:Int:=zv.i 0 F a b f n;let o:Int:=zv.i 1 F a b f n;bif(zbd.ok F m o)then bif(decide ((zbd.i 0 F m o)<0))then p t u w 9223372036854775807 true y g h l c x d e m o else A t u w r j g h l (wrap .i64 (c+1)) x d e m o else none else none else none else none else none else s t u w r j g h l c x d e a b
def zed:=zdv zbu ye zv zbd
def jI(F:Nat)(a:FT zqa)(b:FT zhe):Nat->FT zhe:=lY fun c=>zed F c a b
theorem zh2{F n}{a}{b}:jI F a b (n+1)=zed F (jI F a b n) a b:=rfl
def zi4(k:Exit->VS->R):FT zqa:=cQ _ fun q=>k .ret (fS zxk q)
def zi5(k:Exit->VS->R):FT zhe:=cQ _ fun q=>k (.exit 0) (fS zxl q)
def zh3(jI:Nat->FT zqa->FT zhe->Nat->FT zhe)(F:Nat):List LW:=[⟨0,zh1,fun k q=>uQ _ (jI F (zi4 k) (zi5 k) F) q⟩]
theorem zy5(F:Nat)(k:Exit->VS->R):∀n q,iQ PP (zq6 zbu ye zv zbd za7 F) zq5 (zh3 jI F) [] 177 0 0 k n zh1 q=uQ _ (jI F (zi4 k) (zi5 k) n) q:=
 lG (fun _=>by kernel_rfl) ((hzz:∀(zbu:Qi) (ye:Qi) (zv:Qi4) (zbd:jQ) (za7:jQ) (jI:Nat->FT zqa->FT zhe->Nat->FT zhe),LH PP (zq6 zbu ye zv zbd za7 F) zq5 (zh3 jI F) [] 177 0 0 k zh1 (fun a=>zdv zbu ye zv zbd F a (zi4 k) (zi5 k))) zbu ye zv zbd za7 jI)
def zoZ(za7:jQ)(jI:Nat->FT zqa->FT zhe->Nat->FT zhe)(F:Nat):FT ki3:=fun d e g=>jI F (fun J K L l h m o p s t u w x y z=>some (.v (.tuple #[.i l,.bool h]))) (fun f n r j A B C D E G H I a b=>bif(za7.ok F a b)then let c:Int:=za7.i 0 F a b;bif(decide (c>9223372036854775807))then some (.v (.tuple #[.i 9223372036854775807,.bool true]))else some (.v (.tuple #[.i (wrap .i64 c),.bool false]))else none) F d e g 0 false d e g 0 d e g 0 0
def zlS:=zoZ za7 jI
def za3:Qi3:=mkQ (l:=ki3) zlR.o zlS
theorem zGr(zbu ye:Qi)(zv:Qi4)(zbd za7:jQ)(jI:Nat->FT zqa->FT zhe->Nat->FT zhe)(F:Nat):HHz zlR ki3 (zq6 zbu ye zv zbd za7 F) zq5 (zh3 jI F) 177 (zoZ za7 jI F):=hzz
theorem zGs(F:Nat)(a c d:Int):KO4 (zlS F a c d) (za3.ok F a c d) (za3.i 0 F a c d) (za3.b 1 F a c d):=ko4 _
theorem zGt(F:Nat):yc PP 177 (unS (zz zlR ki3 za3 F)):=
 gzl (W:=zh3 jI) F (zGr zbu ye zv zbd za7 jI F) (zd (zNm F) (zd (zt9 F) (zd (zgI F) (zd (zI2 F) (zd (zJH F) zn))))) (jP [(0,zaK PP 177 0)] kfz (zd (jZ (zh3 jI F) rfl (yn (fun _ k q=>Le.ofEq (zy5 F k F q).symm) jY)) zn))
def zNo:Cfg:=⟨[0,1,2,3,4,5,6,17],[],[],[]⟩
def zq7:Sg:=⟨[.v (.agg [.i,.i,.i])],.v (.tup [.agg [.i,.i,.i],.bool])⟩
def zNp(za3:Qi3)(za2:Qi4)(F:Nat):=zS [(177,zz zlR ki3 za3 F),(96,zz zlB ki4 za2 F)]
def zsR(za3:Qi3)(za2:Qi4)(F:Nat):FT ki3:=fun a c d=>bif(za3.ok F a c d)then let e:Int:=za3.i 0 F a c d;bif(e==0)then some (.v (.tuple #[.agg #[.i 0,.i 0,.i 0],.bool false]))else bif(za3.b 1 F a c d)then some (.v (.tuple #[.agg #[.i 0,.i 0,.i 0],.bool false]))else bif(za2.ok F a c d e)then some (.v (.tuple #[.agg #[.i (za2.i 0 F a c d e),.i (za2.i 1 F a c d e),.i (za2.i 2 F a c d e)],.bool true]))else none else none
def zq8:=zsR za3 za2
def zac:Qi3:=mkQ (l:=ki3) zq7.o zq8
theorem zNq(za3:Qi3)(za2:Qi4)(F:Nat):HHz zq7 ki3 (zNp za3 za2 F) zNo [] 162 (zsR za3 za2 F):=hzz
theorem zNr(F:Nat)(a c d:Int):zkR (zq8 F a c d) (zac.ok F a c d) (zac.i 0 F a c d) (zac.i 1 F a c d) (zac.i 2 F a c d) (zac.b 3 F a c d):=zll _
theorem zNs(F:Nat):yc PP 162 (unS (zz zq7 ki3 zac F)):=
 gzz F (zNq za3 za2 F) (zd (zGt F) (zd (zFP F) zn))
theorem zSx(F:Nat){z:Int}(h0:0<=z)(h1:z<340282366920938463463374607431768211456):zbd.ok F (hi z) (lo z)=true/\decide (zbd.i 0 F (hi z) (lo z)<0)=decide (170141183460469231731687303715884105728<=z):=by
 obtain⟨e1,e2⟩:=zI1 F _ _ (zWi F (a:=hi z) (zeZ z));refine⟨e1,?_⟩;rw [e2,zce];have:=zWu h0 h1;rw [Bool.eq_iff_iff];simp only [decide_eq_true_eq];split
 ·omega
 ·split<;>omega
theorem zNt{z:Int}(h0:0<=z)(h1:z<340282366920938463463374607431768211456):decide (hi z<0)=decide (170141183460469231731687303715884105728<=z):=by
 rw [Bool.eq_iff_iff];simp only [decide_eq_true_eq];unfold hi;omega
theorem zUF(F:Nat)(hF:200<=F){z:Int}(h0:0<=z)(h1:z<170141183460469231731687303715884105728):za7.ok F (hi z) (lo z)=true/\za7.i 0 F (hi z) (lo z)=rt z:=by
 have h:=zNa F hF (zwP z) (zeZ z);rw [zce,zvz (by unfold zcr;omega)]at h;unfold zEf at h;rw [if_neg zc]at h;obtain⟨e1,e2,_⟩:=zJG F _ _ h;exact⟨e1,e2⟩
theorem zSy(F:Nat)(hF:200<=F){z:Int}(h0:0<=z)(h1:z<170141183460469231731687303715884105728):zax.ok F (hi z) (lo z)=true/\zax.i 0 F (hi z) (lo z)=rt z:=by
 have h:=zUy F hF (zwP z) (zeZ z);rw [zce,zvz (by unfold zcr;omega)]at h;unfold zEf at h;rw [if_neg zc]at h;obtain⟨e1,e2,_⟩:=zFD F _ _ h;exact⟨e1,e2⟩
theorem zO9{z:Int}(h0:0<=z):(bif decide (rt z>9223372036854775807)then(some (.v (.tuple #[.i 9223372036854775807,.bool true])):R)else some (.v (.tuple #[.i (wrap .i64 (rt z)),.bool false])))=some (.v (.tuple #[.i (zr2 z),.bool (zv2 z)])):=by
 have hs:=zKl h0;have hr:=(zvQ h0).1;by_cases h:z<85070591730234615865843651857942052864
 ·refine bn (df (by have:=hs.2 h;omega)) (zAP ?_ ?_)
  ·unfold zr2;rw [if_pos h,zH (by have:=hs.2 h;unfold zr;omega)]
  ·unfold zv2;rw [df zc]
 ·refine bp (dt ?_) (zAP ?_ ?_)
  ·rcases Int.lt_or_le 9223372036854775807 (rt z)with hl|hl
   ·exact hl
   ·exact absurd (hs.1 hl) h
  ·unfold zr2;rw [if_neg h]
  ·unfold zv2;rw [dt zc]
theorem zSz(F:Nat)(hF:200<=F){a b c:Int}(ha:zr a)(hb:zr b)(hc:zr c):zlS F a b c=some (.v (.tuple #[.i (zr2 (sq3 a b c)),.bool (zv2 (sq3 a b c))])):=by
 obtain⟨p1,p2⟩:=zGl F ha;obtain⟨q1,q2⟩:=zGl F hb;obtain⟨r1,r2⟩:=zGl F hc;obtain⟨s1,s2,s3⟩:=zvS F (zQB ha);obtain⟨t1,t2,t3⟩:=zvS F (zQB hb);obtain⟨u1,u2,u3⟩:=zvS F (zQB hc);rw [zSw]at s2 s3 t2 t3 u2 u3;have ba:=zlO ha;have bb:=zlO hb;have bc:=zlO hc;obtain⟨v1,v2,v3⟩:=zt2 F 0 (a*a);obtain⟨w1,w2,w3⟩:=zt2 F (a*a) (b*b);obtain⟨x1,x2,x3⟩:=zt2 F (a*a+b*b) (c*c);rw [Int.zero_add]at v2 v3;have v1':zv.ok F 0 0 (hi (a*a)) (lo (a*a))=true:=v1;have v2':zv.i 0 F 0 0 (hi (a*a)) (lo (a*a))=hi (a*a):=v2;have v3':zv.i 1 F 0 0 (hi (a*a)) (lo (a*a))=lo (a*a):=v3;obtain⟨g1,g2⟩:=zSx F (z:=a*a) zc zc;obtain⟨i1,i2⟩:=zSx F (z:=a*a+b*b) zc zc
 obtain⟨j1,j2⟩:=zSx F (z:=a*a+b*b+c*c) zc zc;obtain⟨G,hG⟩:∃G,F=G+4:=⟨F-4,zc⟩;have y1:wrap .i64 (0+1)=1:=dcz;have y2:wrap .i64 (1+1)=2:=dcz;have y3:wrap .i64 (2+1)=3:=dcz;unfold zlS zoZ;rw [show jI F _ _ F=jI F _ _ (G+4)from congrArg (jI F _ _) hG,zh2];unfold zed zdv;have e0:(iv [.v (.i a),.v (.i b),.v (.i c)][Int.toNat 0*1]?)=a:=rfl;have e1:(iv [.v (.i a),.v (.i b),.v (.i c)][Int.toNat 1*1]?)=b:=rfl;have e2:(iv [.v (.i a),.v (.i b),.v (.i c)][Int.toNat 2*1]?)=c:=rfl;refine bp rfl (bp rfl ?_);rw [e0];refine bp p1 ?_;rw [p2];refine bp s1 ?_;rw [s2,s3];refine bp v1' ?_;rw [v2',v3'];refine bp g1 ?_;rw [g2]
 refine bn (df zc) ?_;rw [y1,zh2];unfold zed zdv;refine bp rfl (bp rfl ?_);rw [e1];refine bp q1 ?_;rw [q2];refine bp t1 ?_;rw [t2,t3];refine bp w1 ?_;rw [w2,w3];refine bp i1 ?_;rw [i2];by_cases hz:170141183460469231731687303715884105728<=a*a+b*b
 ·exact bp (dt hz) (zzI (by unfold sq3;omega))
 ·refine bn (df hz) ?_
  rw [y2,zh2];unfold zed zdv;refine bp rfl (bp rfl ?_);rw [e2];refine bp r1 ?_;rw [r2];refine bp u1 ?_;rw [u2,u3];refine bp x1 ?_;rw [x2,x3];refine bp j1 ?_;rw [j2];by_cases hz2:170141183460469231731687303715884105728<=a*a+b*b+c*c
  ·exact bp (dt hz2) (zzI (by unfold sq3;omega))
  ·refine bn (df hz2) ?_
   rw [y3,zh2];unfold zed zdv;refine bn rfl ?_;obtain⟨k1,k2⟩:=zUF F hF (z:=a*a+b*b+c*c) zc zc;refine bp k1 ?_;rw [k2];exact zO9 (z:=a*a+b*b+c*c) zc
theorem zSA(F:Nat)(hF:200<=F){a b c:Int}(ha:zr a)(hb:zr b)(hc:zr c):za3.ok F a b c=true/\za3.i 0 F a b c=zr2 (sq3 a b c)/\za3.b 1 F a b c=zv2 (sq3 a b c):=zGs F _ _ _ (zSz F hF ha hb hc)
theorem zQC(F:Nat)(hF:200<=F){a b c:Int}(ha:zr a)(hb:zr b)(hc:zr c):zh0 F a b c=some (.v (.tuple #[.i (zr2 (sq3 a b c)),.bool (zv2 (sq3 a b c))])):=by
 obtain⟨p1,p2⟩:=zAO F ha;obtain⟨q1,q2⟩:=zAO F hb;obtain⟨r1,r2⟩:=zAO F hc;obtain⟨s1,s2,s3⟩:=zts F hF (zQB ha);obtain⟨t1,t2,t3⟩:=zts F hF (zQB hb);obtain⟨u1,u2,u3⟩:=zts F hF (zQB hc);rw [zSw]at s2 s3 t2 t3 u2 u3;have ba:=zlO ha;have bb:=zlO hb;have bc:=zlO hc;obtain⟨v1,v2,v3⟩:=zfN F hF 0 (a*a);obtain⟨w1,w2,w3⟩:=zfN F hF (a*a) (b*b);obtain⟨x1,x2,x3⟩:=zfN F hF (a*a+b*b) (c*c);rw [Int.zero_add]at v2 v3;have v1':ze.ok F 0 0 (hi (a*a)) (lo (a*a))=true:=v1;have v2':ze.i 0 F 0 0 (hi (a*a)) (lo (a*a))=hi (a*a):=v2;have v3':ze.i 1 F 0 0 (hi (a*a)) (lo (a*a))=lo (a*a):=v3;have g2:=zNt (z:=a*a) zc zc;have i2:=zNt (z:=a*a+b*b) zc zc
 have j2:=zNt (z:=a*a+b*b+c*c) zc zc;obtain⟨G,hG⟩:∃G,F=G+4:=⟨F-4,zc⟩;have y1:wrap .i64 (0+1)=1:=dcz;have y2:wrap .i64 (1+1)=2:=dcz;have y3:wrap .i64 (2+1)=3:=dcz;unfold zh0 zk4;rw [show yV F _ _ F=yV F _ _ (G+4)from congrArg (yV F _ _) hG,zfE];unfold zc5 zcL;have e0:(iv [.v (.i a),.v (.i b),.v (.i c)][0+Int.toNat 0*1]?)=a:=rfl;have e1:(iv [.v (.i a),.v (.i b),.v (.i c)][0+Int.toNat 1*1]?)=b:=rfl;have e2:(iv [.v (.i a),.v (.i b),.v (.i c)][0+Int.toNat 2*1]?)=c:=rfl;refine bp rfl (bp rfl (bp rfl ?_));rw [e0];refine bp p1 ?_;rw [p2];refine bp s1 ?_;rw [s2,s3];refine bp v1' ?_;rw [v2',v3'];dsimp only
 rw [g2];refine bn (df zc) ?_;rw [y1,zfE];unfold zc5 zcL;refine bp rfl (bp rfl (bp rfl ?_));rw [e1];refine bp q1 ?_;rw [q2];refine bp t1 ?_;rw [t2,t3];refine bp w1 ?_;rw [w2,w3];dsimp only;rw [i2];by_cases hz:170141183460469231731687303715884105728<=a*a+b*b
 ·exact bp (dt hz) (zzI (by unfold sq3;omega))
 ·refine bn (df hz) ?_
  rw [y2,zfE];unfold zc5 zcL;refine bp rfl (bp rfl (bp rfl ?_));rw [e2];refine bp r1 ?_;rw [r2];refine bp u1 ?_;rw [u2,u3];refine bp x1 ?_;rw [x2,x3];dsimp only;rw [j2];by_cases hz2:170141183460469231731687303715884105728<=a*a+b*b+c*c
  ·exact bp (dt hz2) (zzI (by unfold sq3;omega))
  ·refine bn (df hz2) ?_
   rw [y3,zfE];unfold zc5 zcL;refine bn rfl ?_;obtain⟨k1,k2⟩:=zSy F hF (z:=a*a+b*b+c*c) zc zc;refine bp k1 ?_;rw [k2];exact zO9 (z:=a*a+b*b+c*c) zc
theorem zQD(F:Nat)(hF:200<=F){a b c:Int}(ha:zr a)(hb:zr b)(hc:zr c):zal.ok F a b c=true/\zal.i 0 F a b c=zr2 (sq3 a b c)/\zal.b 1 F a b c=zv2 (sq3 a b c):=zAR F _ _ _ (zQC F hF ha hb hc)
noncomputable def zgS(a b c:Int):Bool:= !decide (zr2 (sq3 a b c)=0)&& !zv2 (sq3 a b c)
noncomputable def unV(k a b c:Int):Int:=if zgS a b c=true then zld k (zr2 (sq3 a b c))else 0
theorem zVO{z:Int}(h:0<=z):0<=zr2 z/\zr (zr2 z):=by
 have h1:=(zvQ h).1;unfold zr2 zr;by_cases hz:z<85070591730234615865843651857942052864
 ·have:=(zKl h).2 hz
  rw [if_pos hz];omega
 ·rw [if_neg hz];omega
theorem zSB{a b c:Int}(ha:zr a)(hb:zr b)(hc:zr c):0<=sq3 a b c:=by
 have:=zlO ha;have:=zlO hb;have:=zlO hc;unfold sq3;omega
theorem ztw{x y z x' y' z':Int}{c c':Bool}(h1:x=x')(h2:y=y')(h3:z=z')(h4:c=c'):(some (VV.v (.tuple #[.agg #[.i x,.i y,.i z],.bool c])):R)=some (.v (.tuple #[.agg #[.i x',.i y',.i z'],.bool c'])):=by rw [h1,h2,h3,h4]
theorem zWv(F:Nat)(hF:200<=F){a b c:Int}(ha:zr a)(hb:zr b)(hc:zr c):zq8 F a b c=some (.v (.tuple #[.agg #[.i (unV a a b c),.i (unV b a b c),.i (unV c a b c)],.bool (zgS a b c)])):=by
 unfold zq8 zsR;obtain⟨l1,l2,l3⟩:=zSA F hF ha hb hc;have hl:=zVO (zSB ha hb hc);obtain⟨e1,e2,e3,e4,e5⟩:=zFO F _ _ _ _ (zCl F hF (zSr F hF (a1:=b) (a2:=c) ha hl.2) (zSs F hF (a0:=a) (a2:=c) hb hl.2) (zSt F hF (a0:=a) (a1:=b) hc hl.2));refine bp l1 ?_;rw [l2,l3];unfold unV zgS;generalize zr2 (sq3 a b c)=n at*
 generalize zv2 (sq3 a b c)=k at*
 by_cases h0:n=0
 ·refine bp (by simp [h0]) (ztw ?_ ?_ ?_ ?_)<;>simp [h0]
 ·refine bn (by simp [h0]) ?_
  cases k
  ·refine bn rfl (bp e1 (ztw ?_ ?_ ?_ ?_))
   ·rw [e2];simp [h0]
   ·rw [e3];simp [h0]
   ·rw [e4];simp [h0]
   ·simp [h0]
  ·refine bp rfl (ztw ?_ ?_ ?_ ?_)<;>simp
theorem zPa(F:Nat)(hF:200<=F){a b c:Int}(ha:zr a)(hb:zr b)(hc:zr c):zac.ok F a b c=true/\zac.i 0 F a b c=unV a a b c/\zac.i 1 F a b c=unV b a b c/\zac.i 2 F a b c=unV c a b c/\zac.b 3 F a b c=zgS a b c:=zNr F _ _ _ (zWv F hF ha hb hc)
theorem zSC(F:Nat)(hF:200<=F){a b c:Int}(ha:zr a)(hb:zr b)(hc:zr c):zlQ F a b c=some (.v (.tuple #[.agg #[.i (unV a a b c),.i (unV b a b c),.i (unV c a b c)],.bool (zgS a b c)])):=by
 unfold zlQ zoY;obtain⟨l1,l2,l3⟩:=zQD F hF ha hb hc;have hl:=zVO (zSB ha hb hc);obtain⟨p1,p2,_⟩:=znV F _ _ (zzC F hF ha hl.2);obtain⟨q1,q2,_⟩:=znV F _ _ (zzC F hF hb hl.2);obtain⟨r1,r2,_⟩:=znV F _ _ (zzC F hF hc hl.2);refine bp l1 ?_;rw [l2,l3];unfold unV zgS;generalize zr2 (sq3 a b c)=n at*
 generalize zv2 (sq3 a b c)=k at*
 by_cases h0:n=0
 ·refine bp (by simp [h0]) (ztw ?_ ?_ ?_ ?_)<;>simp [h0]
 ·refine bn (by simp [h0]) ?_
  cases k
  ·refine bn rfl (bp p1 (bp q1 (bp r1 (ztw ?_ ?_ ?_ ?_))))
   ·rw [p2];simp [h0]
   ·rw [q2];simp [h0]
   ·rw [r2];simp [h0]
   ·simp [h0]
  ·refine bp rfl (ztw ?_ ?_ ?_ ?_)<;>simp
theorem zKm(F:Nat)(hF:200<=F){a b c:Int}(ha:zr a)(hb:zr b)(hc:zr c):ja.ok F a b c=true/\ja.i 0 F a b c=unV a a b c/\ja.i 1 F a b c=unV b a b c/\ja.i 2 F a b c=unV c a b c/\ja.b 3 F a b c=zgS a b c:=zGp F _ _ _ (zSC F hF ha hb hc)
def zKn:Cfg:=⟨[0,1,4,5,12,16],[],[],[]⟩
def zn4:Sg:=⟨[.v (.int .u32),.v (.int .u32)],.v (.int .i32)⟩
def zKo(F:Nat):=zS []
def zn5(F:Nat):FT ki2:=fun c d=>let a:Int:=wrap .i64 ((wrap .i64 d)-(wrap .i64 c));bif(decide (a>=2147483648))then let b:Int:=wrap .i64 (a-4294967296);bif(decide (b<(-2147483648)))then some (.v (.int .i32 (wrap .i32 (wrap .i64 (b+4294967296)))))else some (.v (.int .i32 (wrap .i32 b)))else bif(decide (a<(-2147483648)))then some (.v (.int .i32 (wrap .i32 (wrap .i64 (a+4294967296)))))else some (.v (.int .i32 (wrap .i32 a)))
def zeo:jQ:=mkQ (l:=ki2) zn4.o zn5
theorem zKp(F:Nat):HHz zn4 ki2 (zKo F) zKn [] 71 (zn5 F):=hzz
theorem zKq(F:Nat)(a b:Int):zWg (zn5 F a b) (zeo.ok F a b) (zeo.i 0 F a b):=zXz _
theorem zKr(F:Nat):yc PP 71 (unS (zz zn4 ki2 zeo F)):=
 gzz F (zKp F) (zn)
def zNu:Cfg:=⟨[0,1,4],[],[],[]⟩
def zq9:Sg:=⟨[.v (.int .u32),.v (.int .u32)],.v (.int .i32)⟩
def zNv(F:Nat):=zS []
def zra(F:Nat):FT ki2:=fun a b=>
 some (.v (.int .i32 (wrap .i32 (wrap .u32 (b-a)))))
def zff:jQ:=mkQ (l:=ki2) zq9.o zra
theorem zNw(F:Nat):HHz zq9 ki2 (zNv F) zNu [] 38 (zra F):=hzz
theorem zNx(F:Nat)(a b:Int):zWg (zra F a b) (zff.ok F a b) (zff.i 0 F a b):=zXz _
theorem zNy(F:Nat):yc PP 38 (unS (zz zq9 ki2 zff F)):=
 gzz F (zNw F) (zn)
theorem zKs{a:Int}(h:zr a):zh (-a)=opp a:=by
 unfold zh opp;unfold zr at h;split<;>(try split)<;>(try split)<;>omega
theorem zXP(F:Nat){x y:Int}(hx:zr x)(hy:zr y):yK.ok F x y=true/\yK.i 0 F x y=opp x/\yK.i 1 F x y=opp y:=by
 refine zyY F _ _ ?_;unfold zk2 zi1;obtain⟨h1,h2,_⟩:=zSf F hx;obtain⟨g1,g2,_⟩:=zSf F hy;refine bp h1 (bp g1 ?_);rw [h2,g2,zKs hx,zKs hy]
theorem zPb(F:Nat){x:Int}(hx:zr x):zR.ok F x=true/\zR.i 0 F x=opp x:=by
 refine zxa F _ ?_;unfold zfy opp;unfold zr at hx;by_cases h:x= -9223372036854775808
 ·refine bp (by simp [h]) ?_
  rw [if_pos h]
 ·refine bn (by simp [h]) ?_
  rw [if_neg h,zH (by unfold zr;omega),Int.zero_sub]
theorem ztx{x y:Int}(h: ¬(x=0/\y=0)):1<=big x y:=by
 unfold big sz;split<;>split<;>omega
theorem zzJ{x:Int}(hx:zr x)(h:x<0):1<=opp x:=by unfold opp;split<;>omega
theorem zGu{x y:Int}(h:big x y<2305843009213693952)(h0:0<=x):(0<=x/\x<=2305843009213693952)/\ -2305843009213693952<=y/\y<=2305843009213693952:=by
 unfold big sz at h;split at h<;>split at h<;>omega
theorem zSD(F:Nat)(hF:200<=F){y x:Int}(hy:zr y)(hx:zr x):zlK F y x=some (.v (.int .u32 (zcQ y x))):=by
 unfold zlK zoR;obtain⟨h0,e0,e1,e2,e3,e4,e5,e6,e7,e8,e9,e10,e11,e12,e13,e14,e15,e16,e17,e18,e19,e20,e21,e22,e23,e24,e25,e26,e27,e28,e29⟩:=zXK F;rw [e0,e1,e2,e3,e4,e5,e6,e7,e8,e9,e10,e11,e12,e13,e14,e15,e16,e17,e18,e19,e20,e21,e22,e23,e24,e25,e26,e27,e28,e29];have neg:x<0->zcQ y x=((aS (scd (opp x) (opp y)).1 (scd (opp x) (opp y)).2 30).2.2+2147483648)%4294967296:=by
  intro h;unfold zcQ;rw [if_neg zc,if_pos h]
 have pos: ¬x<0-> ¬(x=0/\y=0)->zcQ y x=((aS (scd x y).1 (scd x y).2 30).2.2+0)%4294967296:=by
  intro h h2;unfold zcQ;rw [if_neg h2,if_neg h,Int.add_zero]
 by_cases x0:x=0
 ·refine bp (by simp [x0]) ?_
  by_cases y0:y=0
  ·refine bp (by simp [y0]) (zeb ?_)
   unfold zcQ;rw [if_pos ⟨x0,y0⟩]
  ·have hb:=ztx (x:=x) (y:=y) zc
   obtain⟨s1,s2,s3⟩:=zAL F hF hx hy hb;obtain⟨b1,b2⟩:=zGu (zF4 hx hy hb).2 (zzF zc);refine bn (by simp [y0]) (bn (df zc) (bp s1 (bp h0 ?_)));rw [s2,s3,zeF F _ (z:=0) b1 b2 _ _ _ 30 F 0 0 0 (scd x y).1 (scd x y).2 zc zc rfl rfl rfl rfl];exact zeb (pos zc zc).symm
 ·refine bn (by simp [x0]) ?_
  by_cases hn:x<0
  ·have hb:=ztx (x:=opp x) (y:=opp y) (by have:=zzJ hx hn;omega)
   obtain⟨o1,o2,o3⟩:=zXP F hx hy;obtain⟨s1,s2,s3⟩:=zAL F hF (zEh hx) (zEh hy) hb;obtain⟨b1,b2⟩:=zGu (zF4 (zEh hx) (zEh hy) hb).2 (zzF (by have:=zzJ hx hn;omega));refine bp (dt hn) (bp o1 ?_);rw [o2,o3];refine bp s1 (bp h0 ?_);rw [s2,s3,zeF F _ (z:=2147483648) b1 b2 _ _ _ 30 F 0 2147483648 0 (scd (opp x) (opp y)).1 (scd (opp x) (opp y)).2 zc zc rfl rfl rfl rfl];exact zeb (neg hn).symm
  ·have hb:=ztx (x:=x) (y:=y) zc
   obtain⟨s1,s2,s3⟩:=zAL F hF hx hy hb;obtain⟨b1,b2⟩:=zGu (zF4 hx hy hb).2 (zzF zc);refine bn (df hn) (bp s1 (bp h0 ?_));rw [s2,s3,zeF F _ (z:=0) b1 b2 _ _ _ 30 F 0 0 0 (scd x y).1 (scd x y).2 zc zc rfl rfl rfl rfl];exact zeb (pos hn zc).symm
theorem zSE(F:Nat)(hF:200<=F){y x:Int}(hy:zr y)(hx:zr x):zbt.ok F y x=true/\zbt.i 0 F y x=zcQ y x:=zF2 F _ _ (zSD F hF hy hx)
theorem zPc:∀(m n:Nat) (x y:Int),m<=n->big (zdD m x y).1 (zdD m x y).2<2305843009213693952->zdD n x y=zdD m x y
 |0,n,x,y,_,h=>by rw [zAK (by exact h)];rfl
 |m+1,0,_,_,h,_=>absurd h zc
 |m+1,n+1,x,y,hm,h=>by
  rw [zdD]at h;rw [zdD,zdD];by_cases hc:2305843009213693952<=big x y
  ·rw [if_pos hc]at h⊢
   rw [if_pos hc];exact zPc m n _ _ zc h
  ·rw [if_neg hc,if_neg hc]
theorem zPd:∀(m n:Nat) (x y:Int),m<=n->1152921504606846976<=big (dbl m x y).1 (dbl m x y).2->dbl n x y=dbl m x y
 |0,0,_,_,_,_=>rfl
 |0,n+1,x,y,_,h=>if_neg (by unfold big dbl at h;dsimp only at h;unfold big;omega)
 |m+1,0,_,_,h,_=>absurd h zc
 |m+1,n+1,x,y,hm,h=>by
  rw [dbl]at h;rw [dbl,dbl];by_cases hc:big x y<1152921504606846976
  ·rw [if_pos hc]at h⊢
   rw [if_pos hc];exact zPd m n _ _ zc h
  ·rw [if_neg hc,if_neg hc]
theorem zWw(F:Nat)(hF:200<=F)(ex0)(x0 x1 x2 z:Int){x y:Int}(hx:zr x)(hy:zr y)(hb:1<=big x y)(h0:0<=x)(hz:0<=z/\z<=4294967296)
 (hex:∀a b c d e f g h i,ex0 a b c d e f g h i=(some (.v (.int .u32 (wrap .u32 f))):R)):
 yb F (fun a b c d e f g=>zX F (fun a b c d e f g h=>zU F ex0 F a b c d e f g h 0) F a b c d e f g 0) F x0 x1 x2 x y z 0=some (.v (.int .u32 (((aS (scd x y).1 (scd x y).2 30).2.2+z)%4294967296))):=by
 have h1:=zvW 62 2 x y (zSo hx hy) zc;have h2:=zvX 62 x y hb;have hd:=zPc 62 64 x y zc h1;have h4:=zzE 62 (zdD 62 x y).1 (zdD 62 x y).2 zc;have he:=zPd 62 64 (zdD 62 x y).1 (zdD 62 x y).2 zc h4;have es:scd x y=dbl 62 (zdD 62 x y).1 (zdD 62 x y).2:=by unfold scd;rw [hd,he]
 obtain⟨i1,i2⟩:=zUz (x:=(zdD 62 x y).1) (y:=(zdD 62 x y).2) zc;have hs:=zF4 hx hy hb;obtain⟨b1,b2⟩:=zGu hs.2 (zzF h0);obtain⟨j,hj⟩:=zvY F hF (fun a b c d e f g=>zX F (fun a b c d e f g h=>zU F ex0 F a b c d e f g h 0) F a b c d e f g 0) x0 x1 x2 z 62 F 0 x y 0 hx hy zc rfl zc h1;rw [hj];obtain⟨l,hl⟩:=zvZ F (fun a b c d e f g h=>zU F ex0 F a b c d e f g h 0) x0 x1 x2 z j 62 F 0 (zdD 62 x y).1 (zdD 62 x y).2 0 i1 i2 zc rfl zc h4;rw [hl];rw [<-es,zsK F hF _ b1 b2 hz _ _ _ _ _ 30 F 0 (scd x y).1 (scd x y).2 z 0 zc zc rfl rfl rfl (by simp [aS]),hex,zuA]
theorem zSF(F:Nat)(hF:200<=F){y x:Int}(hy:zr y)(hx:zr x):zjH F y x=some (.v (.int .u32 (zcQ y x))):=by
 unfold zjH zmR;have neg:x<0->zcQ y x=((aS (scd (opp x) (opp y)).1 (scd (opp x) (opp y)).2 30).2.2+2147483648)%4294967296:=by
  intro h;unfold zcQ;rw [if_neg zc,if_pos h]
 have pos: ¬x<0-> ¬(x=0/\y=0)->zcQ y x=((aS (scd x y).1 (scd x y).2 30).2.2+0)%4294967296:=by
  intro h h2;unfold zcQ;rw [if_neg h2,if_neg h,Int.add_zero]
 by_cases x0:x=0
 ·refine bp (by simp [x0]) ?_
  by_cases y0:y=0
  ·refine bp (by simp [y0]) (zeb ?_)
   unfold zcQ;rw [if_pos ⟨x0,y0⟩]
  ·have hb:=ztx (x:=x) (y:=y) zc
   refine bn (by simp [y0]) (bn (df zc) ?_);rw [pos zc zc];exact zWw F hF _ _ _ _ _ hx hy hb zc zc (fun _ _ _ _ _ _ _ _ _=>rfl)
 ·refine bn (by simp [x0]) ?_
  by_cases hn:x<0
  ·have hb:=ztx (x:=opp x) (y:=opp y) (by have:=zzJ hx hn;omega)
   obtain⟨o1,o2⟩:=zPb F hx;obtain⟨p1,p2⟩:=zPb F hy;refine bp (dt hn) (bp o1 (bp p1 ?_));rw [o2,p2,neg hn];exact zWw F hF _ _ _ _ _ (zEh hx) (zEh hy) hb (by have:=zzJ hx hn;omega) zc (fun _ _ _ _ _ _ _ _ _=>rfl)
  ·have hb:=ztx (x:=x) (y:=y) zc
   refine bn (df hn) ?_;rw [pos hn zc];exact zWw F hF _ _ _ _ _ hx hy hb zc zc (fun _ _ _ _ _ _ _ _ _=>rfl)
theorem zSG(F:Nat)(hF:200<=F){y x:Int}(hy:zr y)(hx:zr x):zbg.ok F y x=true/\zbg.i 0 F y x=zcQ y x:=zCp F _ _ (zSF F hF hy hx)
def zee(a b:Int):Int:=(b-a+2147483648)%4294967296-2147483648
theorem zXQ(F:Nat)(a b:Int):zff.ok F a b=true/\zff.i 0 F a b=zee a b:=by
 refine zNx F _ _ ?_;unfold zra zee;refine zd6 ?_;rw [zT8,zuA];omega
theorem zWx(F:Nat){a b:Int}(ha:U32 a)(hb:U32 b):zeo.ok F a b=true/\zeo.i 0 F a b=zee a b:=by
 refine zKq F _ _ ?_;unfold zn5 zee;unfold U32 at ha hb;rw [zH (x:=a) (by unfold zr;omega),zH (x:=b) (by unfold zr;omega),zH (by unfold zr;omega)];dsimp only;by_cases h1:b-a>=2147483648
 ·refine bp (dt h1) ?_
  rw [zH (by unfold zr;omega)];refine bn (df zc) (zd6 ?_);rw [zT8];omega
 ·refine bn (df h1) ?_
  by_cases h2:b-a< -2147483648
  ·refine bp (dt h2) (zd6 ?_)
   rw [zH (by unfold zr;omega),zT8];omega
  ·refine bn (df h2) (zd6 ?_)
   rw [zT8]
def zGv:Cfg:=⟨[0,1,4,6],[],[],[]⟩
def zlT:Sg:=⟨[.i,.i],.i⟩
def zGw(F:Nat):=zS []
def zlU(F:Nat):FT ki2:=fun c a=>bif(decide (a<1))then some (.v (.i 0))else let b:Int:=wrap .u64 a;bif(!(decide (b=0)))then some (.v (.i (wrap .i64 (Int.tmod (wrap .u64 c) b))))else none
def zdL:jQ:=mkQ (l:=ki2) zlT.o zlU
theorem zGx(F:Nat):HHz zlT ki2 (zGw F) zGv [] 26 (zlU F):=hzz
theorem zGy(F:Nat)(a b:Int):KO0 (zlU F a b) (zdL.ok F a b) (zdL.i 0 F a b):=ko0 _
theorem zGz(F:Nat):yc PP 26 (unS (zz zlT ki2 zdL F)):=
 gzz F (zGx F) (zn)
def zu2:Cfg:=⟨[0,1,2,3,4],[(0,[0,1,3,11])],[],[]⟩
def zi6:Sg:=⟨[],.v (.agg [.i,.i,.i,.i,.i,.i,.i,.i,.i])⟩
def zu3(F:Nat):=zS []
def zlV:TS:=⟨[(0,.lp 0 (.lit 0)),(1,.lp 1 (.lit 0)),(3,.i)],[(0,⟨(.ex [.i,.i,.i,.i,.i,.i,.i,.i,.i]),true⟩),(1,⟨.hole,true⟩)],2⟩
def zAT:TS:=zlV
def zrb(F:Nat)(u c:FT zpy):FT zpy:=fun a e g h l m o p s t b=>
 bif(decide (a<3))then(
  bif((decide (0<=a))&&(decide (a<3)))then(
   bif((decide (0<=a))&&(decide (a<3)))then(
    let d:Nat:=((0+((Int.toNat a)*3))+((Int.toNat a)*1))
    bif(decide ((d+1)<=b.length))then(
     u (wrap .i64 (a+1)) e g h l m o p s t (b.take d++[.v (.i 4294967296)]++b.drop (d+1)))else none)else none)else none)
 else(
  c a e g h l m o p s t b)
def za4(F:Nat)(a:FT zpy):Nat->FT zpy:=lY fun b=>zrb F b a
theorem zUG{F n}{a}:za4 F a (n+1)=zrb F (za4 F a n) a:=rfl
def zmX(k:Exit->VS->R):FT zpy:=cQ _ fun q=>k (.exit 0) (fS zAT q)
def zmY(za4:Nat->FT zpy->Nat->FT zpy)(F:Nat):List LW:=[⟨0,zlV,fun k q=>uQ _ (za4 F (zmX k) F) q⟩]
theorem zCH(F:Nat)(k:Exit->VS->R):∀n q,iQ PP (zu3 F) zu2 (zmY za4 F) [] 56 0 0 k n zlV q=uQ _ (za4 F (zmX k) n) q:=
 lG (fun _=>by kernel_rfl) ((hzz:∀(za4:Nat->FT zpy->Nat->FT zpy),LH PP (zu3 F) zu2 (zmY za4 F) [] 56 0 0 k zlV (fun a=>zrb F a (zmX k))) za4)
def zyl(za4:Nat->FT zpy->Nat->FT zpy)(F:Nat):FT k0:=za4 F (fun c d e g h l m o p b a=>bif((isI .i64 a[0]?)&&((isI .i64 a[1]?)&&((isI .i64 a[2]?)&&((isI .i64 a[3]?)&&((isI .i64 a[4]?)&&((isI .i64 a[5]?)&&((isI .i64 a[6]?)&&((isI .i64 a[7]?)&&((isI .i64 a[8]?)&&true)))))))))then some (.v (.agg #[.i (iv a[0]?),.i (iv a[1]?),.i (iv a[2]?),.i (iv a[3]?),.i (iv a[4]?),.i (iv a[5]?),.i (iv a[6]?),.i (iv a[7]?),.i (iv a[8]?)]))else none) F 0 0 0 0 0 0 0 0 0 0 ([.v (.i 0),.v (.i 0),.v (.i 0),.v (.i 0),.v (.i 0),.v (.i 0),.v (.i 0),.v (.i 0),.v (.i 0)])
def zAU:=zyl za4
def zl:Q0:=mkQ (l:=k0) zi6.o zAU
theorem zNz(za4:Nat->FT zpy->Nat->FT zpy)(F:Nat):HHz zi6 k0 (zu3 F) zu2 (zmY za4 F) 56 (zyl za4 F):=hzz
theorem zNA(F:Nat):KO2 (zAU F) (zl.ok F) (zl.i 0 F) (zl.i 1 F) (zl.i 2 F) (zl.i 3 F) (zl.i 4 F) (zl.i 5 F) (zl.i 6 F) (zl.i 7 F) (zl.i 8 F):=ko2 _
theorem zu4(F:Nat):yc PP 56 (unS (zz zi6 k0 zl F)):=
 gzl (W:=zmY za4) F (zNz za4 F) (zn) (jP [(0,zaK PP 56 0)] kfz (zd (jZ (zmY za4 F) rfl (yn (fun _ k q=>Le.ofEq (zCH F k F q).symm) jY)) zn))
def zKt:Cfg:=⟨[0,1,4,5,6,7,8,9,10,16],[],[],[]⟩
def zn6:Sg:=⟨[.i,.v (.int .u32)],.v (.tup [.agg [.i,.i,.i,.i,.i,.i,.i,.i,.i],.i])⟩
def zKu(zbl:Qi)(zl:Q0)(F:Nat):=zS [(161,zz znQ ki zbl F),(56,zz zi6 k0 zl F)]
def zh4(zbl:Qi)(zl:Q0)(F:Nat):FT ki2:=fun u w=>bif(decide (u<0))then some (.v (.tuple #[.agg #[.i 0,.i 0,.i 0,.i 0,.i 0,.i 0,.i 0,.i 0,.i 0],.i 2]))else bif(decide (u>=3))then some (.v (.tuple #[.agg #[.i 0,.i 0,.i 0,.i 0,.i 0,.i 0,.i 0,.i 0,.i 0],.i 2]))else bif(zbl.ok F w)then let x:Int:=zbl.i 0 F w;let y:Int:=zbl.i 1 F w;let b:Int:=Int.tmod (wrap .i64 (u+1)) 3;let c:Int:=Int.tmod (wrap .i64 (u+2)) 3;bif(zl.ok F)then let z:Int:=zl.i 0 F;let f:Int:=zl.i 1 F;let n:Int:=zl.i 2 F;let r:Int:=zl.i 3 F;let j:Int:=zl.i 4 F;let A:Int:=zl.i 5 F;let p:Int:=zl.i 6 F;let s:Int:=zl.i 7 F;let t:Int:=zl.i 8 F;bif((decide (0<=b))&&(decide (b<3)))then bif((decide (0<=b))&&(decide (b<3)))then let d:Nat:=(0+((Int.toNat b)*3))+((Int.toNat b)*1);bif(decide ((d+1)<=9))then let e:List VV:=[.v (.i z),.v (.i f),.v (.i n),.v (.i r),.v (.i j),.v (.i A),.v (.i p),.v (.i s),.v (.i t)].take d++[.v (.i x)]++[.v (.i z),.v (.i f),.v (.i n),.v (.i r),.v (.i j),.v (.i A),.v (.i p),.v (.i s),.v (.i t)].drop (d+1);bif((decide (0<=c))&&(decide (c<3)))then bif((decide (0<=c))&&(decide (c<3)))then let g:Nat:=(0+((Int.toNat c)*3))+((Int.toNat c)*1);bif(decide ((g+1)<=e.length))then let h:List VV:=e.take g++[.v (.i x)]++e.drop (g+1);bif((decide (0<=b))&&(decide (b<3)))then bif((decide (0<=c))&&(decide (c<3)))then let l:Nat:=(0+((Int.toNat b)*3))+((Int.toNat c)*1);bif(decide ((l+1)<=h.length))then let m:List VV:=h.take l++[.v (.i (wrap .i64 (0-y)))]++h.drop (l+1);bif((decide (0<=c))&&(decide (c<3)))then bif((decide (0<=b))&&(decide (b<3)))then let o:Nat:=(0+((Int.toNat c)*3))+((Int.toNat b)*1);bif(decide ((o+1)<=m.length))then let a:List VV:=m.take o++[.v (.i y)]++m.drop (o+1);bif((isI .i64 a[0]?)&&((isI .i64 a[1]?)&&((isI .i64 a[2]?)&&((isI .i64 a[3]?)&&((isI .i64 a[4]?)&&((isI .i64 a[5]?)&&((isI .i64 a[6]?)&&((isI .i64 a[7]?)&&((isI .i64 a[8]?)&&true)))))))))then some (.v (.tuple #[.agg #[.i (iv a[0]?),.i (iv a[1]?),.i (iv a[2]?),.i (iv a[3]?),.i (iv a[4]?),.i (iv a[5]?),.i (iv a[6]?),.i (iv a[7]?),.i (iv a[8]?)],.i 0]))else none else none else none else none else none else none else none else none else none else none else none else none else none else none else none
def zkA:=zh4 zbl zl
def zq:jQ:=mkQ (l:=ki2) zn6.o zkA
theorem zKv(zbl:Qi)(zl:Q0)(F:Nat):HHz zn6 ki2 (zKu zbl zl F) zKt [] 131 (zh4 zbl zl F):=hzz
theorem zsS(F:Nat)(a b:Int):zWd (zkA F a b) (zq.ok F a b) (zq.i 0 F a b) (zq.i 1 F a b) (zq.i 2 F a b) (zq.i 3 F a b) (zq.i 4 F a b) (zq.i 5 F a b) (zq.i 6 F a b) (zq.i 7 F a b) (zq.i 8 F a b) (zq.i 9 F a b):=zXw _
theorem zKw(F:Nat):yc PP 131 (unS (zz zn6 ki2 zq F)):=
 gzz F (zKv zbl zl F) (zd (zJE F) (zd (zu4 F) zn))
def zsT:Cfg:=⟨[0,1,2,3,4,5,6,7,8,9,10,11,12,13,14],[(0,[0,1,2,3,4,5,6,7,12,13,31,32])],[],[]⟩
def zkB:Sg:=⟨[.v (.agg [.i,.i,.i,.i,.i,.i,.i,.i,.i]),.v (.agg [.i,.i,.i])],.v (.tup [.agg [.i,.i,.i],.bool])⟩
def zsU(yO:Qi6)(F:Nat):=zS [(85,zz zmo ki6 yO F)]
def zjL:TS:=⟨[(0,.v (.agg [.i,.i,.i,.i,.i,.i,.i,.i,.i])),(1,.v (.agg [.i,.i,.i])),(2,.lp 0 (.lit 0)),(3,.lp 1 (.lit 0)),(4,.lp 2 (.lit 0)),(5,.v (.bool)),(6,.lp 3 (.lit 0)),(7,.v (.bool)),(12,.v (.agg [.i,.i,.i,.i,.i,.i,.i,.i,.i])),(13,.i)],[(0,⟨(.ex [.i,.i,.i,.i,.i,.i,.i,.i,.i]),true⟩),(1,⟨(.ex [.i,.i,.i]),true⟩),(2,⟨(.ex [.i,.i,.i]),true⟩),(3,⟨.hole,true⟩)],4⟩
def zy6:TS:=zjL
def zbK(yO:Qi6)(F:Nat)(rc K:FT zcx):FT zcx:=fun L M N O P Q T U V X x y z J c d e g h l m o p a f n r j A B C D E t u w G H I s=>bif(decide (a<3))then bif(((decide (0<=a))&&(decide (a<3)))&&((isI .i64 [.v (.i c),.v (.i d),.v (.i e),.v (.i g),.v (.i h),.v (.i l),.v (.i m),.v (.i o),.v (.i p)][((Int.toNat a)*3)]?)&&((isI .i64 [.v (.i c),.v (.i d),.v (.i e),.v (.i g),.v (.i h),.v (.i l),.v (.i m),.v (.i o),.v (.i p)][(((Int.toNat a)*3)+1)]?)&&((isI .i64 [.v (.i c),.v (.i d),.v (.i e),.v (.i g),.v (.i h),.v (.i l),.v (.i m),.v (.i o),.v (.i p)][((((Int.toNat a)*3)+1)+1)]?)&&true))))then let Y:Int:=iv [.v (.i c),.v (.i d),.v (.i e),.v (.i g),.v (.i h),.v (.i l),.v (.i m),.v (.i o),.v (.i p)][((Int.toNat a)*3)]?;let Z:Int:=iv [.v (.i c),.v (.i d),.v (.i e),.v (.i g),.v (.i h),.v (.i l),.v (.i m),.v (.i o),.v (.i p)][(((Int.toNat a)*3)+1)]?;let v2:Int:=iv [.v (.i c),.v (.i d),.v (.i e),.v (.i g),.v (.i h),.v (.i l),.v (.i m),.v (.i o),.v (.i p)][((((Int.toNat a)*3)+1)+1)]?;bif(yO.ok F Y Z v2 t u w)then let v3:Int:=yO.i 0 F Y Z v2 t u w;bif J then bif((decide (0<=a))&&(decide (a<3)))then let v4:Nat:=0+((Int.toNat a)*1);bif(decide ((v4+1)<=s.length))then rc L M N O P Q T U V X x y z true c d e g h l m o p (wrap .i64 (a+1)) f n r j A B C D E t u w G H I (s.take v4++[.v (.i v3)]++s.drop (v4+1))else none else none else bif((decide (0<=a))&&(decide (a<3)))then let v5:Nat:=0+((Int.toNat a)*1);bif(decide ((v5+1)<=s.length))then rc L M N O P Q T U V X x y z (yO.b 1 F Y Z v2 t u w) c d e g h l m o p (wrap .i64 (a+1)) f n r j A B C D E t u w G H I (s.take v5++[.v (.i v3)]++s.drop (v5+1))else none else none else none else none else K L M N O P Q T U V X x y z J c d e g h l m o p a f n r j A B C D E t u w G H I s
def zbW:=zbK yO
def j4(F:Nat)(a:FT zcx):Nat->FT zcx:=lY fun b=>zbW F b a
theorem zcA{F n}{a}:j4 F a (n+1)=zbW F (j4 F a n) a:=rfl
def zk5(k:Exit->VS->R):FT zcx:=cQ _ fun q=>k (.exit 0) (fS zy6 q)
def zkC(j4:Nat->FT zcx->Nat->FT zcx)(F:Nat):List LW:=[⟨0,zjL,fun k q=>uQ _ (j4 F (zk5 k) F) q⟩]
theorem zAV(F:Nat)(k:Exit->VS->R):∀n q,iQ PP (zsU yO F) zsT (zkC j4 F) [] 134 0 0 k n zjL q=uQ _ (j4 F (zk5 k) n) q:=
 lG (fun _=>by kernel_rfl) ((hzz:∀(yO:Qi6) (j4:Nat->FT zcx->Nat->FT zcx),LH PP (zsU yO F) zsT (zkC j4 F) [] 134 0 0 k zjL (fun a=>zbK yO F a (zk5 k))) yO j4)
def zrc(j4:Nat->FT zcx->Nat->FT zcx)(F:Nat):FT zyF:=fun d e g h l m o p s u b c=>j4 F (fun v6 v7 v8 v9 w x y z f n r j A t B C D E G H I J K L M N O P Q T U V X Y Z v41 v42 v43 v44 a=>bif((isI .i64 a[0]?)&&((isI .i64 a[1]?)&&((isI .i64 a[2]?)&&true)))then some (.v (.tuple #[.agg #[.i (iv a[0]?),.i (iv a[1]?),.i (iv a[2]?)],.bool t]))else none) F d e g h l m o p s u b c false false d e g h l m o p s 0 d e g h l m o p s u b c 0 0 0 ([.v (.i 0),.v (.i 0),.v (.i 0)])
def zn7:=zrc j4
def zB:ztM:=mkQ (l:=zyF) zkB.o zn7
theorem zKx(yO:Qi6)(j4:Nat->FT zcx->Nat->FT zcx)(F:Nat):HHz zkB zyF (zsU yO F) zsT (zkC j4 F) 134 (zrc j4 F):=hzz
theorem zKy(F:Nat)(d e g h l m o p s t a c:Int):zkR (zn7 F d e g h l m o p s t a c) (zB.ok F d e g h l m o p s t a c) (zB.i 0 F d e g h l m o p s t a c) (zB.i 1 F d e g h l m o p s t a c) (zB.i 2 F d e g h l m o p s t a c) (zB.b 3 F d e g h l m o p s t a c):=zll _
theorem zym(F:Nat):yc PP 134 (unS (zz zkB zyF zB F)):=
 gzl (W:=zkC j4) F (zKx yO j4 F) (zd (zxi F) zn) (jP [(0,zaK PP 134 0)] kfz (zd (jZ (zkC j4 F) rfl (yn (fun _ k q=>Le.ofEq (zAV F k F q).symm) jY)) zn))
def zmZ:Cfg:=⟨[0,1,2,3,4,5,6,7,8,9,10,13,14,15],[(0,[0,1,2,3,8,9,25]),(2,[0,1,2,3,4,5,8,9,10,11,12,13,14,24,25])],[],[]⟩
def zm0:Sg:=⟨[.v (.agg [.i,.i,.i,.i,.i,.i,.i,.i,.i])],.v (.agg [.i,.i,.i,.i,.i,.i,.i,.i,.i])⟩
def zm1(F:Nat):=zS []
def zlW:TS:=⟨[(0,.v (.agg [.i,.i,.i,.i,.i,.i,.i,.i,.i])),(1,.lp 0 (.lit 0)),(2,.lp 1 (.lit 0)),(3,.lp 2 (.lit 0)),(4,.i),(5,.lp 3 (.lit 0)),(8,.v (.agg [.i,.i,.i,.i,.i,.i,.i,.i,.i])),(9,.i),(13,.v (.agg [.i,.i,.i])),(14,.i)],[(0,⟨(.ex [.i,.i,.i,.i,.i,.i,.i,.i,.i]),true⟩),(1,⟨(.ex [.i,.i,.i,.i,.i,.i,.i,.i,.i]),true⟩),(2,⟨.hole,true⟩),(3,⟨(.ex [.i,.i,.i]),true⟩)],4⟩
def zAW:TS:=zlW
def zrd(F:Nat)(rc Q:FT zer):FT zer:=fun U V X Y Z x5 x6 x7 x8 g h l m o p s t u w x b c d a y z f n r j A B C D E G H I J K L M e N O P=>
 bif(decide (a<3))then(
  bif(((decide (0<=a))&&(decide (a<3)))&&((isI .i64 [.v (.i b),.v (.i c),.v (.i d)][((Int.toNat a)*1)]?)&&true))then(
   bif((decide (0<=a))&&(decide (a<3)))then(
    bif((decide (0<=g))&&(decide (g<3)))then(
     let T:Nat:=((0+((Int.toNat a)*3))+((Int.toNat g)*1))
     bif(decide ((T+1)<=e.length))then(
      rc U V X Y Z x5 x6 x7 x8 g h l m o p s t u w x b c d (wrap .i64 (a+1)) y z f n r j A B C D E G H I J K L M (e.take T++[.v (.i (iv [.v (.i b),.v (.i c),.v (.i d)][((Int.toNat a)*1)]?))]++e.drop (T+1)) N O P)else none)else none)else none)else none)
 else(
  Q U V X Y Z x5 x6 x7 x8 g h l m o p s t u w x b c d a y z f n r j A B C D E G H I J K L M e N O P)
def zad(F:Nat)(a:FT zer):Nat->FT zer:=lY fun b=>zrd F b a
theorem zUH{F n}{a}:zad F a (n+1)=zrd F (zad F a n) a:=rfl
def zm2(k:Exit->VS->R):FT zer:=cQ _ fun q=>k (.exit 2) (fS zAW q)
def zlX:TS:=⟨[(0,.v (.agg [.i,.i,.i,.i,.i,.i,.i,.i,.i])),(1,.lp 0 (.lit 0)),(2,.lp 1 (.lit 0)),(3,.lp 2 (.lit 0)),(8,.v (.agg [.i,.i,.i,.i,.i,.i,.i,.i,.i])),(9,.i)],[(0,⟨(.ex [.i,.i,.i,.i,.i,.i,.i,.i,.i]),true⟩),(1,⟨(.ex [.i,.i,.i,.i,.i,.i,.i,.i,.i]),true⟩),(2,⟨.hole,true⟩)],3⟩
def zAX:TS:=zlX
def zuf(zad:Nat->FT zer->Nat->FT zer)(F:Nat)(rc I:FT zmz):FT zmz:=fun x0 x1 x2 x3 x4 x5 x6 x7 x8 o b c d e g h l m a p s t u w x y z f n r j A B C D E G H=>bif(decide (a<3))then bif(((decide (0<=a))&&(decide (a<3)))&&((isI .i64 [.v (.i o),.v (.i b),.v (.i c),.v (.i d),.v (.i e),.v (.i g),.v (.i h),.v (.i l),.v (.i m)][((Int.toNat a)*3)]?)&&((isI .i64 [.v (.i o),.v (.i b),.v (.i c),.v (.i d),.v (.i e),.v (.i g),.v (.i h),.v (.i l),.v (.i m)][(((Int.toNat a)*3)+1)]?)&&((isI .i64 [.v (.i o),.v (.i b),.v (.i c),.v (.i d),.v (.i e),.v (.i g),.v (.i h),.v (.i l),.v (.i m)][((((Int.toNat a)*3)+1)+1)]?)&&true))))then let v1:Int:=iv [.v (.i o),.v (.i b),.v (.i c),.v (.i d),.v (.i e),.v (.i g),.v (.i h),.v (.i l),.v (.i m)][((Int.toNat a)*3)]?;let v2:Int:=iv [.v (.i o),.v (.i b),.v (.i c),.v (.i d),.v (.i e),.v (.i g),.v (.i h),.v (.i l),.v (.i m)][(((Int.toNat a)*3)+1)]?;let v3:Int:=iv [.v (.i o),.v (.i b),.v (.i c),.v (.i d),.v (.i e),.v (.i g),.v (.i h),.v (.i l),.v (.i m)][((((Int.toNat a)*3)+1)+1)]?;zad F (fun v4 v5 v6 v7 v8 v9 J K L v13 M N O P Q T U V X Y v24 v25 v26 v27 Z v29 v30 v31 v32 v33 v34 v35 v36 v37 v38 v39 v40 v41 v42 v43 v44 v45 v46 v47 v48 v49=>rc v4 v5 v6 v7 v8 v9 J K L M N O P Q T U V X (wrap .i64 (Y+1)) Z v29 v30 v31 v32 v33 v34 v35 v36 v37 v38 v39 v40 v41 v42 v43 v44 v45 v46) F x0 x1 x2 x3 x4 x5 x6 x7 x8 a o b c d e g h l m a v1 v2 v3 0 p s t u w x y z f n r j A B C D E G H v1 v2 v3 else none else I x0 x1 x2 x3 x4 x5 x6 x7 x8 o b c d e g h l m a p s t u w x y z f n r j A B C D E G H
def zv4:=zuf zad
def zae(F:Nat)(a:FT zmz):Nat->FT zmz:=lY fun b=>zv4 F b a
theorem zUI{F n}{a}:zae F a (n+1)=zv4 F (zae F a n) a:=rfl
def zm3(k:Exit->VS->R):FT zmz:=cQ _ fun q=>k (.exit 0) (fS zAX q)
def zfg(zad:Nat->FT zer->Nat->FT zer)(zae:Nat->FT zmz->Nat->FT zmz)(F:Nat):List LW:=[⟨2,zlW,fun k q=>uQ _ (zad F (zm2 k) F) q⟩,⟨0,zlX,fun k q=>uQ _ (zae F (zm3 k) F) q⟩]
theorem zCI(F:Nat)(k:Exit->VS->R):∀n q,iQ PP (zm1 F) zmZ (zfg zad zae F) [] 127 1 2 k n zlW q=uQ _ (zad F (zm2 k) n) q:=
 lG (fun _=>by kernel_rfl) ((hzz:∀(zad:Nat->FT zer->Nat->FT zer) (zae:Nat->FT zmz->Nat->FT zmz),LH PP (zm1 F) zmZ (zfg zad zae F) [] 127 1 2 k zlW (fun a=>zrd F a (zm2 k))) zad zae)
theorem zCJ(F:Nat)(k:Exit->VS->R):∀n q,iQ PP (zm1 F) zmZ (zfg zad zae F) [] 127 0 0 k n zlX q=uQ _ (zae F (zm3 k) n) q:=
 lG (fun _=>by kernel_rfl) ((hzz:∀(zad:Nat->FT zer->Nat->FT zer) (zae:Nat->FT zmz->Nat->FT zmz),LH PP (zm1 F) zmZ (zfg zad zae F) [] 127 0 0 k zlX (fun a=>zuf zad F a (zm3 k))) zad zae)
def zyn(zae:Nat->FT zmz->Nat->FT zmz)(F:Nat):FT ki9:=fun b c d e g h l m o=>zae F (fun p s t u w x y z f n r j A B C D E G H I J K L M N O P Q T U V X Y Z v84 v85 v86 a=>bif((isI .i64 a[0]?)&&((isI .i64 a[1]?)&&((isI .i64 a[2]?)&&((isI .i64 a[3]?)&&((isI .i64 a[4]?)&&((isI .i64 a[5]?)&&((isI .i64 a[6]?)&&((isI .i64 a[7]?)&&((isI .i64 a[8]?)&&true)))))))))then some (.v (.agg #[.i (iv a[0]?),.i (iv a[1]?),.i (iv a[2]?),.i (iv a[3]?),.i (iv a[4]?),.i (iv a[5]?),.i (iv a[6]?),.i (iv a[7]?),.i (iv a[8]?)]))else none) F b c d e g h l m o b c d e g h l m o 0 b c d e g h l m o 0 0 0 0 0 0 0 0 0 ([.v (.i 0),.v (.i 0),.v (.i 0),.v (.i 0),.v (.i 0),.v (.i 0),.v (.i 0),.v (.i 0),.v (.i 0)])
def zAY:=zyn zae
def zQ:Qi9:=mkQ (l:=ki9) zm0.o zAY
theorem zNB(zad:Nat->FT zer->Nat->FT zer)(zae:Nat->FT zmz->Nat->FT zmz)(F:Nat):HHz zm0 ki9 (zm1 F) zmZ (zfg zad zae F) 127 (zyn zae F):=hzz
theorem zNC(F:Nat)(a b c d e g h l m:Int):KO2 (zAY F a b c d e g h l m) (zQ.ok F a b c d e g h l m) (zQ.i 0 F a b c d e g h l m) (zQ.i 1 F a b c d e g h l m) (zQ.i 2 F a b c d e g h l m) (zQ.i 3 F a b c d e g h l m) (zQ.i 4 F a b c d e g h l m) (zQ.i 5 F a b c d e g h l m) (zQ.i 6 F a b c d e g h l m) (zQ.i 7 F a b c d e g h l m) (zQ.i 8 F a b c d e g h l m):=ko2 _
theorem zAZ(F:Nat):yc PP 127 (unS (zz zm0 ki9 zQ F)):=
 gzl (W:=zfg zad zae) F (zNB zad zae F) (zn) (jP [(0,zaK PP 127 0),(2,zaK PP 127 1)] kfz (zd (jZ (zfg zad zae F) rfl (yn (fun h=>absurd h dcz) (yn (fun _ k q=>Le.ofEq (zCJ F k F q).symm) jY))) (zd (jZ (zfg zad zae F) rfl (yn (fun _ k q=>Le.ofEq (zCI F k F q).symm) (yn (fun h=>absurd h dcz) jY))) zn)))
def zCK:Cfg:=⟨[0,1,2],[],[],[]⟩
def zjM:Sg:=⟨[.v (.agg [.i,.i,.i,.i,.i,.i,.i,.i,.i])],.v (.int .u32)⟩
def zCL(zbt:jQ)(F:Nat):=zS [(124,zz zlJ ki2 zbt F)]
def zm4(zbt:jQ)(F:Nat):FT ki9:=fun a c d b e g h l m=>bif(zbt.ok F b a)then some (.v (.int .u32 (zbt.i 0 F b a)))else none
def zo0:=zm4 zbt
def zbh:Qi9:=mkQ (l:=ki9) zjM.o zo0
theorem zCM(zbt:jQ)(F:Nat):HHz zjM ki9 (zCL zbt F) zCK [] 84 (zm4 zbt F):=hzz
theorem zCN(F:Nat)(a b c d e g h l m:Int):KO8 (zo0 F a b c d e g h l m) (zbh.ok F a b c d e g h l m) (zbh.i 0 F a b c d e g h l m):=ko8 _
theorem zCO(F:Nat):yc PP 84 (unS (zz zjM ki9 zbh F)):=
 gzz F (zCM zbt F) (zd (zF3 F) zn)
def zxm:Cfg:=⟨[0,1,2,3,4,5,6,7,8,9,10,11,12,15,16,17],[(0,[0,1,2,3,4,5,6,7,8,13,14,15,16,34,35])],[],[]⟩
def zty:Sg:=⟨[.v (.agg [.i,.i,.i,.i,.i,.i,.i,.i,.i]),.v (.agg [.i,.i,.i,.i,.i,.i,.i,.i,.i])],.v (.tup [.agg [.i,.i,.i,.i,.i,.i,.i,.i,.i],.bool])⟩
def zxn(zQ:Qi9)(zB:ztM)(F:Nat):=zS [(127,zz zm0 ki9 zQ F),(134,zz zkB zyF zB F)]
def zn8:TS:=⟨[(0,.v (.agg [.i,.i,.i,.i,.i,.i,.i,.i,.i])),(1,.v (.agg [.i,.i,.i,.i,.i,.i,.i,.i,.i])),(2,.lp 0 (.lit 0)),(3,.lp 1 (.lit 0)),(4,.lp 2 (.lit 0)),(5,.v (.bool)),(6,.lp 3 (.lit 0)),(7,.v (.bool)),(8,.lp 4 (.lit 0)),(15,.v (.agg [.i,.i,.i,.i,.i,.i,.i,.i,.i])),(16,.i)],[(0,⟨(.ex [.i,.i,.i,.i,.i,.i,.i,.i,.i]),true⟩),(1,⟨(.ex [.i,.i,.i,.i,.i,.i,.i,.i,.i]),true⟩),(2,⟨(.ex [.i,.i,.i,.i,.i,.i,.i,.i,.i]),true⟩),(3,⟨.hole,true⟩),(4,⟨(.ex [.i,.i,.i,.i,.i,.i,.i,.i,.i]),true⟩)],5⟩
def zCP:TS:=zn8
def zck(zB:ztM)(F:Nat)(rc ex0:FT zbL):FT zbL:=fun x0 x1 x2 x3 x4 x5 x6 x7 x8 x9 j A B C D E G H I x19 c d e g h l m o p a J K L M N O P Q T U V X Y Z x44 x45 x46 x47 x48 x49 x50 x51 x52 x53 x54 x55 x56 r s t u w x y z f n=>bif(decide (a<3))then bif(((decide (0<=a))&&(decide (a<3)))&&((isI .i64 [.v (.i c),.v (.i d),.v (.i e),.v (.i g),.v (.i h),.v (.i l),.v (.i m),.v (.i o),.v (.i p)][((Int.toNat a)*3)]?)&&((isI .i64 [.v (.i c),.v (.i d),.v (.i e),.v (.i g),.v (.i h),.v (.i l),.v (.i m),.v (.i o),.v (.i p)][(((Int.toNat a)*3)+1)]?)&&((isI .i64 [.v (.i c),.v (.i d),.v (.i e),.v (.i g),.v (.i h),.v (.i l),.v (.i m),.v (.i o),.v (.i p)][((((Int.toNat a)*3)+1)+1)]?)&&true))))then let v0:Int:=iv [.v (.i c),.v (.i d),.v (.i e),.v (.i g),.v (.i h),.v (.i l),.v (.i m),.v (.i o),.v (.i p)][((Int.toNat a)*3)]?;let v1:Int:=iv [.v (.i c),.v (.i d),.v (.i e),.v (.i g),.v (.i h),.v (.i l),.v (.i m),.v (.i o),.v (.i p)][(((Int.toNat a)*3)+1)]?;let v2:Int:=iv [.v (.i c),.v (.i d),.v (.i e),.v (.i g),.v (.i h),.v (.i l),.v (.i m),.v (.i o),.v (.i p)][((((Int.toNat a)*3)+1)+1)]?;bif(zB.ok F s t u w x y z f n v0 v1 v2)then let v3:Int:=zB.i 0 F s t u w x y z f n v0 v1 v2;let v4:Int:=zB.i 1 F s t u w x y z f n v0 v1 v2;let v5:Int:=zB.i 2 F s t u w x y z f n v0 v1 v2;bif x19 then bif((decide (0<=a))&&(decide (a<3)))then let v6:Nat:=0+((Int.toNat a)*3);bif(decide ((v6+3)<=r.length))then rc x0 x1 x2 x3 x4 x5 x6 x7 x8 x9 j A B C D E G H I true c d e g h l m o p (wrap .i64 (a+1)) J K L M N O P Q T U V X Y Z x44 x45 x46 x47 x48 x49 x50 x51 x52 x53 x54 x55 x56 (r.take v6++[.v (.i v3),.v (.i v4),.v (.i v5)]++r.drop (v6+3)) s t u w x y z f n else none else none else bif((decide (0<=a))&&(decide (a<3)))then let v7:Nat:=0+((Int.toNat a)*3);bif(decide ((v7+3)<=r.length))then rc x0 x1 x2 x3 x4 x5 x6 x7 x8 x9 j A B C D E G H I (zB.b 3 F s t u w x y z f n v0 v1 v2) c d e g h l m o p (wrap .i64 (a+1)) J K L M N O P Q T U V X Y Z x44 x45 x46 x47 x48 x49 x50 x51 x52 x53 x54 x55 x56 (r.take v7++[.v (.i v3),.v (.i v4),.v (.i v5)]++r.drop (v7+3)) s t u w x y z f n else none else none else none else none else ex0 x0 x1 x2 x3 x4 x5 x6 x7 x8 x9 j A B C D E G H I x19 c d e g h l m o p a J K L M N O P Q T U V X Y Z x44 x45 x46 x47 x48 x49 x50 x51 x52 x53 x54 x55 x56 r s t u w x y z f n
def zcG:=zck zB
def zaW(F:Nat)(a:FT zbL):Nat->FT zbL:=lY fun b=>zcG F b a
theorem zdM{F n}{a}:zaW F a (n+1)=zcG F (zaW F a n) a:=rfl
def zo1(k:Exit->VS->R):FT zbL:=cQ _ fun q=>k (.exit 0) (fS zCP q)
def zpR(zaW:Nat->FT zbL->Nat->FT zbL)(F:Nat):List LW:=[⟨0,zn8,fun k q=>uQ _ (zaW F (zo1 k) F) q⟩]
theorem zGA(F:Nat)(k:Exit->VS->R):∀n q,iQ PP (zxn zQ zB F) zxm (zpR zaW F) [] 132 0 0 k n zn8 q=uQ _ (zaW F (zo1 k) n) q:=
 lG (fun _=>by kernel_rfl) ((hzz:∀(zQ:Qi9) (zB:ztM) (zaW:Nat->FT zbL->Nat->FT zbL),LH PP (zxn zQ zB F) zxm (zpR zaW F) [] 132 0 0 k zn8 (fun a=>zck zB F a (zo1 k))) zQ zB zaW)
def zu5(zQ:Qi9)(zaW:Nat->FT zbL->Nat->FT zbL)(F:Nat):FT ziD:=fun p s t u w x y z f o b c d e g h l m=>bif(zQ.ok F o b c d e g h l m)then zaW F (fun v8 v9 r j A B C D E G H I J K L M N O P n Q T U V X Y Z v35 v36 v37 v38 v39 v40 v41 v42 v43 v44 v45 v46 v47 v48 v49 v50 v51 v52 v53 v54 v55 v56 v57 v58 v59 v60 v61 v62 v63 v64 a v66 v67 v68 v69 v70 v71 v72 v73 v74=>bif((isI .i64 a[0]?)&&((isI .i64 a[1]?)&&((isI .i64 a[2]?)&&((isI .i64 a[3]?)&&((isI .i64 a[4]?)&&((isI .i64 a[5]?)&&((isI .i64 a[6]?)&&((isI .i64 a[7]?)&&((isI .i64 a[8]?)&&true)))))))))then some (.v (.tuple #[.agg #[.i (iv a[0]?),.i (iv a[1]?),.i (iv a[2]?),.i (iv a[3]?),.i (iv a[4]?),.i (iv a[5]?),.i (iv a[6]?),.i (iv a[7]?),.i (iv a[8]?)],.bool n]))else none) F p s t u w x y z f o b c d e g h l m false false p s t u w x y z f 0 p s t u w x y z f o b c d e g h l m 0 0 0 0 0 0 0 0 0 ([.v (.i 0),.v (.i 0),.v (.i 0),.v (.i 0),.v (.i 0),.v (.i 0),.v (.i 0),.v (.i 0),.v (.i 0)]) (zQ.i 0 F o b c d e g h l m) (zQ.i 1 F o b c d e g h l m) (zQ.i 2 F o b c d e g h l m) (zQ.i 3 F o b c d e g h l m) (zQ.i 4 F o b c d e g h l m) (zQ.i 5 F o b c d e g h l m) (zQ.i 6 F o b c d e g h l m) (zQ.i 7 F o b c d e g h l m) (zQ.i 8 F o b c d e g h l m)else none
def ztz:=zu5 zQ zaW
def yk:zBI:=mkQ (l:=ziD) zty.o ztz
theorem zQE(zQ:Qi9)(zB:ztM)(zaW:Nat->FT zbL->Nat->FT zbL)(F:Nat):HHz zty ziD (zxn zQ zB F) zxm (zpR zaW F) 132 (zu5 zQ zaW F):=hzz
theorem zQF(F:Nat)(o p s t u v w x y z a c d e g h l m:Int):zRP (ztz F o p s t u v w x y z a c d e g h l m) (yk.ok F o p s t u v w x y z a c d e g h l m) (yk.i 0 F o p s t u v w x y z a c d e g h l m) (yk.i 1 F o p s t u v w x y z a c d e g h l m) (yk.i 2 F o p s t u v w x y z a c d e g h l m) (yk.i 3 F o p s t u v w x y z a c d e g h l m) (yk.i 4 F o p s t u v w x y z a c d e g h l m) (yk.i 5 F o p s t u v w x y z a c d e g h l m) (yk.i 6 F o p s t u v w x y z a c d e g h l m) (yk.i 7 F o p s t u v w x y z a c d e g h l m) (yk.i 8 F o p s t u v w x y z a c d e g h l m) (yk.b 9 F o p s t u v w x y z a c d e g h l m):=zUi _
theorem zQG(F:Nat):yc PP 132 (unS (zz zty ziD yk F)):=
 gzl (W:=zpR zaW) F (zQE zQ zB zaW F) (zd (zAZ F) (zd (zym F) zn)) (jP [(0,zaK PP 132 0)] kfz (zd (jZ (zpR zaW F) rfl (yn (fun _ k q=>Le.ofEq (zGA F k F q).symm) jY)) zn))
def zCQ:Cfg:=⟨[0,1,4,5,6,7,8,14,16,28,40],[],[],[]⟩
def zjN:Sg:=⟨[.i,.v (.int .u32)],.v (.tup [.agg [.i,.i,.i,.i,.i,.i,.i,.i,.i],.i])⟩
def zCR(za1:Qi)(F:Nat):=zS [(144,zz zlt ki za1 F)]
def zfh(za1:Qi)(F:Nat):FT ki2:=fun c d=>bif(za1.ok F d)then let a:Int:=za1.i 0 F d;let b:Int:=za1.i 1 F d;bif(c==0)then some (.v (.tuple #[.agg #[.i 4294967296,.i 0,.i 0,.i 0,.i a,.i (wrap .i64 (0-b)),.i 0,.i b,.i a],.i 0]))else bif(c==1)then some (.v (.tuple #[.agg #[.i a,.i 0,.i b,.i 0,.i 4294967296,.i 0,.i (wrap .i64 (0-b)),.i 0,.i a],.i 0]))else bif(c==2)then some (.v (.tuple #[.agg #[.i a,.i (wrap .i64 (0-b)),.i 0,.i b,.i a,.i 0,.i 0,.i 0,.i 4294967296],.i 0]))else some (.v (.tuple #[.agg #[.i 0,.i 0,.i 0,.i 0,.i 0,.i 0,.i 0,.i 0,.i 0],.i 2]))else none
def zf5:=zfh za1
def zk:jQ:=mkQ (l:=ki2) zjN.o zf5
theorem zCS(za1:Qi)(F:Nat):HHz zjN ki2 (zCR za1 F) zCQ [] 107 (zfh za1 F):=hzz
theorem zo2(F:Nat)(a b:Int):zWd (zf5 F a b) (zk.ok F a b) (zk.i 0 F a b) (zk.i 1 F a b) (zk.i 2 F a b) (zk.i 3 F a b) (zk.i 4 F a b) (zk.i 5 F a b) (zk.i 6 F a b) (zk.i 7 F a b) (zk.i 8 F a b) (zk.i 9 F a b):=zXw _
theorem zCT(F:Nat):yc PP 107 (unS (zz zjN ki2 zk F)):=
 gzz F (zCS za1 F) (zd (zFz F) zn)
def zCU:Cfg:=⟨[0,1,2,3,4,5,6,7,8,9,10,11],[],[],[]⟩
def zf6:Sg:=⟨[.v (.agg [.i,.i,.i,.i,.i,.i,.i,.i,.i]),.v (.agg [.i,.i,.i])],.v (.tup [.agg [.i,.i,.i],.bool])⟩
def zCV(yz:Qi6)(F:Nat):=zS [(114,zz zg2 ki6 yz F)]
def zm5(yz:Qi6)(F:Nat):FT zyF:=fun e g h l m o p s t d a c=>bif(yz.ok F e g h d a c)then let u:Int:=yz.i 0 F e g h d a c;bif(yz.ok F l m o d a c)then let w:Int:=yz.i 0 F l m o d a c;bif(yz.ok F p s t d a c)then let x:Int:=yz.i 0 F p s t d a c;bif(yz.b 1 F e g h d a c)then some (.v (.tuple #[.agg #[.i u,.i w,.i x],.bool true]))else bif(yz.b 1 F l m o d a c)then some (.v (.tuple #[.agg #[.i u,.i w,.i x],.bool true]))else some (.v (.tuple #[.agg #[.i u,.i w,.i x],.bool (yz.b 1 F p s t d a c)]))else none else none else none
def zo3:=zm5 yz
def zI:ztM:=mkQ (l:=zyF) zf6.o zo3
theorem zCW(yz:Qi6)(F:Nat):HHz zf6 zyF (zCV yz F) zCU [] 110 (zm5 yz F):=hzz
theorem zCX(F:Nat)(d e g h l m o p s t a c:Int):zkR (zo3 F d e g h l m o p s t a c) (zI.ok F d e g h l m o p s t a c) (zI.i 0 F d e g h l m o p s t a c) (zI.i 1 F d e g h l m o p s t a c) (zI.i 2 F d e g h l m o p s t a c) (zI.b 3 F d e g h l m o p s t a c):=zll _
theorem zug(F:Nat):yc PP 110 (unS (zz zf6 zyF zI F)):=
 gzz F (zCW yz F) (zd (zsM F) zn)
def zGB:Cfg:=⟨[0,1,2],[],[],[]⟩
def zlY:Sg:=⟨[.v (.agg [.i,.i,.i,.i,.i,.i,.i,.i,.i])],.v (.agg [.i,.i,.i,.i,.i,.i,.i,.i,.i])⟩
def zGC(F:Nat):=zS []
def zre(F:Nat):FT ki9:=fun a b c d e g h l m=>
 some (.v (.agg #[.i a,.i d,.i h,.i b,.i e,.i l,.i c,.i g,.i m]))
def zP:Qi9:=mkQ (l:=ki9) zlY.o zre
theorem zGD(F:Nat):HHz zlY ki9 (zGC F) zGB [] 145 (zre F):=hzz
theorem zGE(F:Nat)(a b c d e g h l m:Int):KO2 (zre F a b c d e g h l m) (zP.ok F a b c d e g h l m) (zP.i 0 F a b c d e g h l m) (zP.i 1 F a b c d e g h l m) (zP.i 2 F a b c d e g h l m) (zP.i 3 F a b c d e g h l m) (zP.i 4 F a b c d e g h l m) (zP.i 5 F a b c d e g h l m) (zP.i 6 F a b c d e g h l m) (zP.i 7 F a b c d e g h l m) (zP.i 8 F a b c d e g h l m):=ko2 _
theorem zGF(F:Nat):yc PP 145 (unS (zz zlY ki9 zP F)):=
 gzz F (zGD F) (zn)
def zy7:Cfg:=⟨[0,1,2],[],[],[]⟩
def zgw:Sg:=⟨[.v (.agg [.i,.i,.i,.i,.i,.i,.i,.i,.i])],.v (.int .u32)⟩
def zy8(zbg:jQ)(F:Nat):=zS [(149,zz zjG ki2 zbg F)]
def zi7(zbg:jQ)(F:Nat):FT ki9:=fun a c d b e g h l m=>bif(zbg.ok F b a)then some (.v (.int .u32 (zbg.i 0 F b a)))else none
def zk6:=zi7 zbg
def zaB:Qi9:=mkQ (l:=ki9) zgw.o zk6
theorem zy9(zbg:jQ)(F:Nat):HHz zgw ki9 (zy8 zbg F) zy7 [] 113 (zi7 zbg F):=hzz
theorem zza(F:Nat)(a b c d e g h l m:Int):KO8 (zk6 F a b c d e g h l m) (zaB.ok F a b c d e g h l m) (zaB.i 0 F a b c d e g h l m):=ko8 _
theorem zzb(F:Nat):yc PP 113 (unS (zz zgw ki9 zaB F)):=
 gzz F (zy9 zbg F) (zd (zCq F) zn)
def zKz:Cfg:=⟨[0,1,2,3,4,5,6,7,8,9,10,11,12],[],[],[]⟩
def zn9:Sg:=⟨[.v (.agg [.i,.i,.i,.i,.i,.i,.i,.i,.i]),.v (.agg [.i,.i,.i,.i,.i,.i,.i,.i,.i])],.v (.tup [.agg [.i,.i,.i,.i,.i,.i,.i,.i,.i],.bool])⟩
def zKA(zP:Qi9)(zI:ztM)(F:Nat):=zS [(145,zz zlY ki9 zP F),(110,zz zf6 zyF zI F)]
def zrf(zP:Qi9)(zI:ztM)(F:Nat):FT ziD:=fun z f n r j A B C D E a c d e g h l m=>bif(zP.ok F E a c d e g h l m)then let Q:Int:=zP.i 0 F E a c d e g h l m;let T:Int:=zP.i 1 F E a c d e g h l m;let U:Int:=zP.i 2 F E a c d e g h l m;let V:Int:=zP.i 3 F E a c d e g h l m;let X:Int:=zP.i 4 F E a c d e g h l m;let Y:Int:=zP.i 5 F E a c d e g h l m;let Z:Int:=zP.i 6 F E a c d e g h l m;let v7:Int:=zP.i 7 F E a c d e g h l m;let v8:Int:=zP.i 8 F E a c d e g h l m;bif(zI.ok F z f n r j A B C D Q T U)then let G:Int:=zI.i 0 F z f n r j A B C D Q T U;let o:Int:=zI.i 1 F z f n r j A B C D Q T U;let p:Int:=zI.i 2 F z f n r j A B C D Q T U;bif(zI.ok F z f n r j A B C D V X Y)then let s:Int:=zI.i 0 F z f n r j A B C D V X Y;let t:Int:=zI.i 1 F z f n r j A B C D V X Y;let u:Int:=zI.i 2 F z f n r j A B C D V X Y;bif(zI.ok F z f n r j A B C D Z v7 v8)then let w:Int:=zI.i 0 F z f n r j A B C D Z v7 v8;let x:Int:=zI.i 1 F z f n r j A B C D Z v7 v8;let y:Int:=zI.i 2 F z f n r j A B C D Z v7 v8;bif(zP.ok F G o p s t u w x y)then let H:Int:=zP.i 0 F G o p s t u w x y;let I:Int:=zP.i 1 F G o p s t u w x y;let J:Int:=zP.i 2 F G o p s t u w x y;let K:Int:=zP.i 3 F G o p s t u w x y;let L:Int:=zP.i 4 F G o p s t u w x y;let M:Int:=zP.i 5 F G o p s t u w x y;let N:Int:=zP.i 6 F G o p s t u w x y;let O:Int:=zP.i 7 F G o p s t u w x y;let P:Int:=zP.i 8 F G o p s t u w x y;bif(zI.b 3 F z f n r j A B C D Q T U)then some (.v (.tuple #[.agg #[.i H,.i I,.i J,.i K,.i L,.i M,.i N,.i O,.i P],.bool true]))else bif(zI.b 3 F z f n r j A B C D V X Y)then some (.v (.tuple #[.agg #[.i H,.i I,.i J,.i K,.i L,.i M,.i N,.i O,.i P],.bool true]))else some (.v (.tuple #[.agg #[.i H,.i I,.i J,.i K,.i L,.i M,.i N,.i O,.i P],.bool (zI.b 3 F z f n r j A B C D Z v7 v8)]))else none else none else none else none else none
def zsV:=zrf zP zI
def zJ:zBI:=mkQ (l:=ziD) zn9.o zsV
theorem zKB(zP:Qi9)(zI:ztM)(F:Nat):HHz zn9 ziD (zKA zP zI F) zKz [] 108 (zrf zP zI F):=hzz
theorem zKC(F:Nat)(o p s t u v w x y z a c d e g h l m:Int):zRP (zsV F o p s t u v w x y z a c d e g h l m) (zJ.ok F o p s t u v w x y z a c d e g h l m) (zJ.i 0 F o p s t u v w x y z a c d e g h l m) (zJ.i 1 F o p s t u v w x y z a c d e g h l m) (zJ.i 2 F o p s t u v w x y z a c d e g h l m) (zJ.i 3 F o p s t u v w x y z a c d e g h l m) (zJ.i 4 F o p s t u v w x y z a c d e g h l m) (zJ.i 5 F o p s t u v w x y z a c d e g h l m) (zJ.i 6 F o p s t u v w x y z a c d e g h l m) (zJ.i 7 F o p s t u v w x y z a c d e g h l m) (zJ.i 8 F o p s t u v w x y z a c d e g h l m) (zJ.b 9 F o p s t u v w x y z a c d e g h l m):=zUi _
theorem zKD(F:Nat):yc PP 108 (unS (zz zn9 ziD zJ F)):=
 gzz F (zKB zP zI F) (zd (zGF F) (zd (zug F) zn))
def zGG:Cfg:=⟨[0],[],[],[]⟩
def zh5:Sg:=⟨[],.v (.agg [.i,.i,.i,.i,.i,.i,.i,.i,.i])⟩
def zGH(F:Nat):=zS []
def zrg(F:Nat):FT k0:=
 some (.v (.agg #[.i 4294967296,.i 0,.i 0,.i 0,.i 4294967296,.i 0,.i 0,.i 0,.i 4294967296]))
def zj:Q0:=mkQ (l:=k0) zh5.o zrg
theorem zGI(F:Nat):HHz zh5 k0 (zGH F) zGG [] 59 (zrg F):=hzz
theorem zGJ(F:Nat):KO2 (zrg F) (zj.ok F) (zj.i 0 F) (zj.i 1 F) (zj.i 2 F) (zj.i 3 F) (zj.i 4 F) (zj.i 5 F) (zj.i 6 F) (zj.i 7 F) (zj.i 8 F):=ko2 _
theorem zv5(F:Nat):yc PP 59 (unS (zz zh5 k0 zj F)):=
 gzz F (zGI F) (zn)
theorem zh6(a0 a1 a2 a3 a4 a5:Int):jA a3 a4 a5 a0 a1 a2=jA a0 a1 a2 a3 a4 a5:=by unfold jA;rw [zGk a3,zGk a4,zGk a5]
theorem zv6(F:Nat)(hF:200<=F):zl.ok F=true/\zl.i 0 F=4294967296/\zl.i 1 F=0/\zl.i 2 F=0/\zl.i 3 F=0/\zl.i 4 F=4294967296/\zl.i 5 F=0/\zl.i 6 F=0/\zl.i 7 F=0/\zl.i 8 F=4294967296:=by
 refine zNA F ?_;obtain⟨G,rfl⟩:∃G,F=G+4:=⟨F-4,zc⟩;kernel_rfl
theorem zPe(F:Nat):zj.ok F=true/\zj.i 0 F=4294967296/\zj.i 1 F=0/\zj.i 2 F=0/\zj.i 3 F=0/\zj.i 4 F=4294967296/\zj.i 5 F=0/\zj.i 6 F=0/\zj.i 7 F=0/\zj.i 8 F=4294967296:=zGJ F rfl
theorem zGK(F:Nat)(hF:200<=F)(a0 a1 a2 a3 a4 a5 a6 a7 a8:Int):zQ.ok F a0 a1 a2 a3 a4 a5 a6 a7 a8=true/\zQ.i 0 F a0 a1 a2 a3 a4 a5 a6 a7 a8=a0/\zQ.i 1 F a0 a1 a2 a3 a4 a5 a6 a7 a8=a3/\zQ.i 2 F a0 a1 a2 a3 a4 a5 a6 a7 a8=a6/\zQ.i 3 F a0 a1 a2 a3 a4 a5 a6 a7 a8=a1/\zQ.i 4 F a0 a1 a2 a3 a4 a5 a6 a7 a8=a4/\zQ.i 5 F a0 a1 a2 a3 a4 a5 a6 a7 a8=a7/\zQ.i 6 F a0 a1 a2 a3 a4 a5 a6 a7 a8=a2/\zQ.i 7 F a0 a1 a2 a3 a4 a5 a6 a7 a8=a5/\zQ.i 8 F a0 a1 a2 a3 a4 a5 a6 a7 a8=a8:=by
 refine zNC F _ _ _ _ _ _ _ _ _ ?_;obtain⟨G,rfl⟩:∃G,F=G+4:=⟨F-4,zc⟩;kernel_rfl
theorem zPf(F:Nat)(a0 a1 a2 a3 a4 a5 a6 a7 a8:Int):zP.ok F a0 a1 a2 a3 a4 a5 a6 a7 a8=true/\zP.i 0 F a0 a1 a2 a3 a4 a5 a6 a7 a8=a0/\zP.i 1 F a0 a1 a2 a3 a4 a5 a6 a7 a8=a3/\zP.i 2 F a0 a1 a2 a3 a4 a5 a6 a7 a8=a6/\zP.i 3 F a0 a1 a2 a3 a4 a5 a6 a7 a8=a1/\zP.i 4 F a0 a1 a2 a3 a4 a5 a6 a7 a8=a4/\zP.i 5 F a0 a1 a2 a3 a4 a5 a6 a7 a8=a7/\zP.i 6 F a0 a1 a2 a3 a4 a5 a6 a7 a8=a2/\zP.i 7 F a0 a1 a2 a3 a4 a5 a6 a7 a8=a5/\zP.i 8 F a0 a1 a2 a3 a4 a5 a6 a7 a8=a8:=zGE F _ _ _ _ _ _ _ _ _ rfl
theorem zSH(F:Nat)(hF:200<=F){a0 a1 a2 a3 a4 a5 a6 a7 a8 u0 u1 u2 p0 p1 p2:Int}{c0 c1 c2:Bool}(d0:yO.ok F a0 a1 a2 u0 u1 u2=true/\yO.i 0 F a0 a1 a2 u0 u1 u2=p0/\yO.b 1 F a0 a1 a2 u0 u1 u2=c0)(d1:yO.ok F a3 a4 a5 u0 u1 u2=true/\yO.i 0 F a3 a4 a5 u0 u1 u2=p1/\yO.b 1 F a3 a4 a5 u0 u1 u2=c1)(d2:yO.ok F a6 a7 a8 u0 u1 u2=true/\yO.i 0 F a6 a7 a8 u0 u1 u2=p2/\yO.b 1 F a6 a7 a8 u0 u1 u2=c2):
 zn7 F a0 a1 a2 a3 a4 a5 a6 a7 a8 u0 u1 u2=some (.v (.tuple #[.agg #[.i p0,.i p1,.i p2],.bool (c0||c1||c2)])):=by
 obtain⟨d01,d02,d03⟩:=d0;obtain⟨d11,d12,d13⟩:=d1;obtain⟨d21,d22,d23⟩:=d2;have w1:wrap .i64 (0+1)=1:=dcz;have w2:wrap .i64 (1+1)=2:=dcz;have w3:wrap .i64 (2+1)=3:=dcz;unfold zn7 zrc;obtain⟨G,hG⟩:∃G,F=G+4:=⟨F-4,zc⟩;rw [show j4 F _ F=j4 F _ (G+4)from congrArg (j4 F _) hG];have e00:(iv [.v (.i a0),.v (.i a1),.v (.i a2),.v (.i a3),.v (.i a4),.v (.i a5),.v (.i a6),.v (.i a7),.v (.i a8)][Int.toNat 0*3]?)=a0:=rfl;have e01:(iv [.v (.i a0),.v (.i a1),.v (.i a2),.v (.i a3),.v (.i a4),.v (.i a5),.v (.i a6),.v (.i a7),.v (.i a8)][Int.toNat 0*3+1]?)=a1:=rfl;have e02:(iv [.v (.i a0),.v (.i a1),.v (.i a2),.v (.i a3),.v (.i a4),.v (.i a5),.v (.i a6),.v (.i a7),.v (.i a8)][Int.toNat 0*3+1+1]?)=a2:=rfl
 have e10:(iv [.v (.i a0),.v (.i a1),.v (.i a2),.v (.i a3),.v (.i a4),.v (.i a5),.v (.i a6),.v (.i a7),.v (.i a8)][Int.toNat 1*3]?)=a3:=rfl;have e11:(iv [.v (.i a0),.v (.i a1),.v (.i a2),.v (.i a3),.v (.i a4),.v (.i a5),.v (.i a6),.v (.i a7),.v (.i a8)][Int.toNat 1*3+1]?)=a4:=rfl;have e12:(iv [.v (.i a0),.v (.i a1),.v (.i a2),.v (.i a3),.v (.i a4),.v (.i a5),.v (.i a6),.v (.i a7),.v (.i a8)][Int.toNat 1*3+1+1]?)=a5:=rfl;have e20:(iv [.v (.i a0),.v (.i a1),.v (.i a2),.v (.i a3),.v (.i a4),.v (.i a5),.v (.i a6),.v (.i a7),.v (.i a8)][Int.toNat 2*3]?)=a6:=rfl;have e21:(iv [.v (.i a0),.v (.i a1),.v (.i a2),.v (.i a3),.v (.i a4),.v (.i a5),.v (.i a6),.v (.i a7),.v (.i a8)][Int.toNat 2*3+1]?)=a7:=rfl
 have e22:(iv [.v (.i a0),.v (.i a1),.v (.i a2),.v (.i a3),.v (.i a4),.v (.i a5),.v (.i a6),.v (.i a7),.v (.i a8)][Int.toNat 2*3+1+1]?)=a8:=rfl;rw [zcA];unfold zbW zbK;refine bp rfl (bp rfl ?_);rw [e00,e01,e02];refine bp d01 ?_;rw [d02,d03];refine bn rfl (bp rfl (bp rfl ?_));rw [w1];cases c0
 ·rw [zcA]
  unfold zbW zbK;refine bp rfl (bp rfl ?_);rw [e10,e11,e12];refine bp d11 ?_;rw [d12,d13];refine bn rfl (bp rfl (bp rfl ?_));rw [w2];cases c1
  ·rw [zcA]
   unfold zbW zbK;refine bp rfl (bp rfl ?_);rw [e20,e21,e22];refine bp d21 ?_;rw [d22,d23];refine bn rfl (bp rfl (bp rfl ?_));rw [w3];rw [zcA];unfold zbW zbK;exact bn rfl (bp rfl rfl)
  ·rw [zcA]
   unfold zbW zbK;refine bp rfl (bp rfl ?_);rw [e20,e21,e22];refine bp d21 ?_;rw [d22];refine bp rfl (bp rfl (bp rfl ?_));rw [w3];rw [zcA];unfold zbW zbK;exact bn rfl (bp rfl rfl)
 ·rw [zcA]
  unfold zbW zbK;refine bp rfl (bp rfl ?_);rw [e10,e11,e12];refine bp d11 ?_;rw [d12];refine bp rfl (bp rfl (bp rfl ?_));rw [w2];rw [zcA];unfold zbW zbK;refine bp rfl (bp rfl ?_);rw [e20,e21,e22];refine bp d21 ?_;rw [d22];refine bp rfl (bp rfl (bp rfl ?_));rw [w3];rw [zcA];unfold zbW zbK;exact bn rfl (bp rfl rfl)
theorem zsW(F:Nat)(hF:200<=F){a0 a1 a2 a3 a4 a5 a6 a7 a8 u0 u1 u2:Int}(ha0:zr a0)(ha1:zr a1)(ha2:zr a2)(ha3:zr a3)(ha4:zr a4)(ha5:zr a5)(ha6:zr a6)(ha7:zr a7)(ha8:zr a8)(hu0:zr u0)(hu1:zr u1)(hu2:zr u2):zB.ok F a0 a1 a2 a3 a4 a5 a6 a7 a8 u0 u1 u2=true/\zB.i 0 F a0 a1 a2 a3 a4 a5 a6 a7 a8 u0 u1 u2=zh (jA a0 a1 a2 u0 u1 u2)/\zB.i 1 F a0 a1 a2 a3 a4 a5 a6 a7 a8 u0 u1 u2=zh (jA a3 a4 a5 u0 u1 u2)/\zB.i 2 F a0 a1 a2 a3 a4 a5 a6 a7 a8 u0 u1 u2=zh (jA a6 a7 a8 u0 u1 u2)/\zB.b 3 F a0 a1 a2 a3 a4 a5 a6 a7 a8 u0 u1 u2=(zw (jA a0 a1 a2 u0 u1 u2)||zw (jA a3 a4 a5 u0 u1 u2)||zw (jA a6 a7 a8 u0 u1 u2)):=
 zKy F _ _ _ _ _ _ _ _ _ _ _ _ (zSH F hF (zKk F hF ha0 ha1 ha2 hu0 hu1 hu2) (zKk F hF ha3 ha4 ha5 hu0 hu1 hu2) (zKk F hF ha6 ha7 ha8 hu0 hu1 hu2))
theorem zv7(F:Nat)(hF:200<=F){a0 a1 a2 a3 a4 a5 a6 a7 a8 u0 u1 u2:Int}(ha0:zr a0)(ha1:zr a1)(ha2:zr a2)(ha3:zr a3)(ha4:zr a4)(ha5:zr a5)(ha6:zr a6)(ha7:zr a7)(ha8:zr a8)(hu0:zr u0)(hu1:zr u1)(hu2:zr u2):zI.ok F a0 a1 a2 a3 a4 a5 a6 a7 a8 u0 u1 u2=true/\zI.i 0 F a0 a1 a2 a3 a4 a5 a6 a7 a8 u0 u1 u2=zh (jA a0 a1 a2 u0 u1 u2)/\zI.i 1 F a0 a1 a2 a3 a4 a5 a6 a7 a8 u0 u1 u2=zh (jA a3 a4 a5 u0 u1 u2)/\zI.i 2 F a0 a1 a2 a3 a4 a5 a6 a7 a8 u0 u1 u2=zh (jA a6 a7 a8 u0 u1 u2)/\zI.b 3 F a0 a1 a2 a3 a4 a5 a6 a7 a8 u0 u1 u2=(zw (jA a0 a1 a2 u0 u1 u2)||zw (jA a3 a4 a5 u0 u1 u2)||zw (jA a6 a7 a8 u0 u1 u2)):=by
 refine zCX F _ _ _ _ _ _ _ _ _ _ _ _ ?_;unfold zo3 zm5;obtain⟨p1,p2,p3⟩:=zAN F hF ha0 ha1 ha2 hu0 hu1 hu2;obtain⟨q1,q2,q3⟩:=zAN F hF ha3 ha4 ha5 hu0 hu1 hu2;obtain⟨r1,r2,r3⟩:=zAN F hF ha6 ha7 ha8 hu0 hu1 hu2;refine bp p1 (bp q1 (bp r1 ?_));rw [p2,p3,q2,q3,r2,r3];exact or3
theorem zWy(F:Nat)(hF:200<=F){a0 a1 a2 a3 a4 a5 a6 a7 a8 b0 b1 b2 b3 b4 b5 b6 b7 b8 p0 p1 p2 p3 p4 p5 p6 p7 p8:Int}{c0 c1 c2:Bool}(d0:zB.ok F b0 b3 b6 b1 b4 b7 b2 b5 b8 a0 a1 a2=true/\zB.i 0 F b0 b3 b6 b1 b4 b7 b2 b5 b8 a0 a1 a2=p0/\zB.i 1 F b0 b3 b6 b1 b4 b7 b2 b5 b8 a0 a1 a2=p1/\zB.i 2 F b0 b3 b6 b1 b4 b7 b2 b5 b8 a0 a1 a2=p2/\zB.b 3 F b0 b3 b6 b1 b4 b7 b2 b5 b8 a0 a1 a2=c0)(d1:zB.ok F b0 b3 b6 b1 b4 b7 b2 b5 b8 a3 a4 a5=true/\zB.i 0 F b0 b3 b6 b1 b4 b7 b2 b5 b8 a3 a4 a5=p3/\zB.i 1 F b0 b3 b6 b1 b4 b7 b2 b5 b8 a3 a4 a5=p4/\zB.i 2 F b0 b3 b6 b1 b4 b7 b2 b5 b8 a3 a4 a5=p5/\zB.b 3 F b0 b3 b6 b1 b4 b7 b2 b5 b8 a3 a4 a5=c1)(d2:zB.ok F b0 b3 b6 b1 b4 b7 b2 b5 b8 a6 a7 a8=true/\zB.i 0 F b0 b3 b6 b1 b4 b7 b2 b5 b8 a6 a7 a8=p6/\zB.i 1 F b0 b3 b6 b1 b4 b7 b2 b5 b8 a6 a7 a8=p7/\zB.i 2 F b0 b3 b6 b1 b4 b7 b2 b5 b8 a6 a7 a8=p8/\zB.b 3 F b0 b3 b6 b1 b4 b7 b2 b5 b8 a6 a7 a8=c2):
 ztz F a0 a1 a2 a3 a4 a5 a6 a7 a8 b0 b1 b2 b3 b4 b5 b6 b7 b8=some (.v (.tuple #[.agg #[.i p0,.i p1,.i p2,.i p3,.i p4,.i p5,.i p6,.i p7,.i p8],.bool (c0||c1||c2)])):=by
 obtain⟨d01,d02,d03,d04,d05⟩:=d0;obtain⟨d11,d12,d13,d14,d15⟩:=d1;obtain⟨d21,d22,d23,d24,d25⟩:=d2;have w1:wrap .i64 (0+1)=1:=dcz;have w2:wrap .i64 (1+1)=2:=dcz;have w3:wrap .i64 (2+1)=3:=dcz;unfold ztz zu5;obtain⟨b0_,bb0,bb1,bb2,bb3,bb4,bb5,bb6,bb7,bb8⟩:=zGK F hF b0 b1 b2 b3 b4 b5 b6 b7 b8;refine bp b0_ ?_;rw [bb0,bb1,bb2,bb3,bb4,bb5,bb6,bb7,bb8];obtain⟨G,hG⟩:∃G,F=G+4:=⟨F-4,zc⟩;rw [show zaW F _ F=zaW F _ (G+4)from congrArg (zaW F _) hG];have e00:(iv [.v (.i a0),.v (.i a1),.v (.i a2),.v (.i a3),.v (.i a4),.v (.i a5),.v (.i a6),.v (.i a7),.v (.i a8)][Int.toNat 0*3]?)=a0:=rfl;have e01:(iv [.v (.i a0),.v (.i a1),.v (.i a2),.v (.i a3),.v (.i a4),.v (.i a5),.v (.i a6),.v (.i a7),.v (.i a8)][Int.toNat 0*3+1]?)=a1:=rfl
 have e02:(iv [.v (.i a0),.v (.i a1),.v (.i a2),.v (.i a3),.v (.i a4),.v (.i a5),.v (.i a6),.v (.i a7),.v (.i a8)][Int.toNat 0*3+1+1]?)=a2:=rfl;have e10:(iv [.v (.i a0),.v (.i a1),.v (.i a2),.v (.i a3),.v (.i a4),.v (.i a5),.v (.i a6),.v (.i a7),.v (.i a8)][Int.toNat 1*3]?)=a3:=rfl;have e11:(iv [.v (.i a0),.v (.i a1),.v (.i a2),.v (.i a3),.v (.i a4),.v (.i a5),.v (.i a6),.v (.i a7),.v (.i a8)][Int.toNat 1*3+1]?)=a4:=rfl;have e12:(iv [.v (.i a0),.v (.i a1),.v (.i a2),.v (.i a3),.v (.i a4),.v (.i a5),.v (.i a6),.v (.i a7),.v (.i a8)][Int.toNat 1*3+1+1]?)=a5:=rfl;have e20:(iv [.v (.i a0),.v (.i a1),.v (.i a2),.v (.i a3),.v (.i a4),.v (.i a5),.v (.i a6),.v (.i a7),.v (.i a8)][Int.toNat 2*3]?)=a6:=rfl
 have e21:(iv [.v (.i a0),.v (.i a1),.v (.i a2),.v (.i a3),.v (.i a4),.v (.i a5),.v (.i a6),.v (.i a7),.v (.i a8)][Int.toNat 2*3+1]?)=a7:=rfl;have e22:(iv [.v (.i a0),.v (.i a1),.v (.i a2),.v (.i a3),.v (.i a4),.v (.i a5),.v (.i a6),.v (.i a7),.v (.i a8)][Int.toNat 2*3+1+1]?)=a8:=rfl;rw [zdM];unfold zcG zck;refine bp rfl (bp rfl ?_);rw [e00,e01,e02];refine bp d01 ?_;rw [d02,d03,d04,d05];refine bn rfl (bp rfl (bp rfl ?_));rw [w1];cases c0
 ·rw [zdM]
  unfold zcG zck;refine bp rfl (bp rfl ?_);rw [e10,e11,e12];refine bp d11 ?_;rw [d12,d13,d14,d15];refine bn rfl (bp rfl (bp rfl ?_));rw [w2];cases c1
  ·rw [zdM]
   unfold zcG zck;refine bp rfl (bp rfl ?_);rw [e20,e21,e22];refine bp d21 ?_;rw [d22,d23,d24,d25];refine bn rfl (bp rfl (bp rfl ?_));rw [w3];rw [zdM];unfold zcG zck;exact bn rfl (bp rfl rfl)
  ·rw [zdM]
   unfold zcG zck;refine bp rfl (bp rfl ?_);rw [e20,e21,e22];refine bp d21 ?_;rw [d22,d23,d24];refine bp rfl (bp rfl (bp rfl ?_));rw [w3];rw [zdM];unfold zcG zck;exact bn rfl (bp rfl rfl)
 ·rw [zdM]
  unfold zcG zck;refine bp rfl (bp rfl ?_);rw [e10,e11,e12];refine bp d11 ?_;rw [d12,d13,d14];refine bp rfl (bp rfl (bp rfl ?_));rw [w2];rw [zdM];unfold zcG zck;refine bp rfl (bp rfl ?_);rw [e20,e21,e22];refine bp d21 ?_;rw [d22,d23,d24];refine bp rfl (bp rfl (bp rfl ?_));rw [w3];rw [zdM];unfold zcG zck;exact bn rfl (bp rfl rfl)
theorem zWz(F:Nat)(hF:200<=F){a0 a1 a2 a3 a4 a5 a6 a7 a8 b0 b1 b2 b3 b4 b5 b6 b7 b8:Int}(ha0:zr a0)(ha1:zr a1)(ha2:zr a2)(ha3:zr a3)(ha4:zr a4)(ha5:zr a5)(ha6:zr a6)(ha7:zr a7)(ha8:zr a8)(hb0:zr b0)(hb1:zr b1)(hb2:zr b2)(hb3:zr b3)(hb4:zr b4)(hb5:zr b5)(hb6:zr b6)(hb7:zr b7)(hb8:zr b8):yk.ok F a0 a1 a2 a3 a4 a5 a6 a7 a8 b0 b1 b2 b3 b4 b5 b6 b7 b8=true/\yk.i 0 F a0 a1 a2 a3 a4 a5 a6 a7 a8 b0 b1 b2 b3 b4 b5 b6 b7 b8=zh (jA a0 a1 a2 b0 b3 b6)/\yk.i 1 F a0 a1 a2 a3 a4 a5 a6 a7 a8 b0 b1 b2 b3 b4 b5 b6 b7 b8=zh (jA a0 a1 a2 b1 b4 b7)/\yk.i 2 F a0 a1 a2 a3 a4 a5 a6 a7 a8 b0 b1 b2 b3 b4 b5 b6 b7 b8=zh (jA a0 a1 a2 b2 b5 b8)/\yk.i 3 F a0 a1 a2 a3 a4 a5 a6 a7 a8 b0 b1 b2 b3 b4 b5 b6 b7 b8=zh (jA a3 a4 a5 b0 b3 b6)/\yk.i 4 F a0 a1 a2 a3 a4 a5 a6 a7 a8 b0 b1 b2 b3 b4 b5 b6 b7 b8=zh (jA a3 a4 a5 b1 b4 b7)/\yk.i 5 F a0 a1 a2 a3 a4 a5 a6 a7 a8 b0 b1 b2 b3 b4 b5 b6 b7 b8=zh (jA a3 a4 a5 b2 b5 b8)/\yk.i 6 F a0 a1 a2 a3 a4 a5 a6 a7 a8 b0 b1 b2 b3 b4 b5 b6 b7 b8=zh (jA a6 a7 a8 b0 b3 b6)/\yk.i 7 F a0 a1 a2 a3 a4 a5 a6 a7 a8 b0 b1 b2 b3 b4 b5 b6 b7 b8=zh (jA a6 a7 a8 b1 b4 b7)/\yk.i 8 F a0 a1 a2 a3 a4 a5 a6 a7 a8 b0 b1 b2 b3 b4 b5 b6 b7 b8=zh (jA a6 a7 a8 b2 b5 b8)/\yk.b 9 F a0 a1 a2 a3 a4 a5 a6 a7 a8 b0 b1 b2 b3 b4 b5 b6 b7 b8=((zw (jA a0 a1 a2 b0 b3 b6)||zw (jA a0 a1 a2 b1 b4 b7)||zw (jA a0 a1 a2 b2 b5 b8))||(zw (jA a3 a4 a5 b0 b3 b6)||zw (jA a3 a4 a5 b1 b4 b7)||zw (jA a3 a4 a5 b2 b5 b8))||(zw (jA a6 a7 a8 b0 b3 b6)||zw (jA a6 a7 a8 b1 b4 b7)||zw (jA a6 a7 a8 b2 b5 b8))):=by
 have d0:=zsW F hF hb0 hb3 hb6 hb1 hb4 hb7 hb2 hb5 hb8 ha0 ha1 ha2;rw [zh6 a0 a1 a2 b0 b3 b6,zh6 a0 a1 a2 b1 b4 b7,zh6 a0 a1 a2 b2 b5 b8]at d0;have d1:=zsW F hF hb0 hb3 hb6 hb1 hb4 hb7 hb2 hb5 hb8 ha3 ha4 ha5;rw [zh6 a3 a4 a5 b0 b3 b6,zh6 a3 a4 a5 b1 b4 b7,zh6 a3 a4 a5 b2 b5 b8]at d1;have d2:=zsW F hF hb0 hb3 hb6 hb1 hb4 hb7 hb2 hb5 hb8 ha6 ha7 ha8;rw [zh6 a6 a7 a8 b0 b3 b6,zh6 a6 a7 a8 b1 b4 b7,zh6 a6 a7 a8 b2 b5 b8]at d2;exact zQF F _ _ _ _ _ _ _ _ _ _ _ _ _ _ _ _ _ _ (zWy F hF d0 d1 d2)
theorem or9{a b c d e f g h i:Bool}:((a||d||g)||(b||e||h)||(c||f||i))=((a||b||c)||(d||e||f)||(g||h||i)):=by
 cases a<;>cases b<;>cases c<;>cases d<;>cases e<;>cases f<;>cases g<;>cases h<;>cases i<;>rfl
theorem zYl{p0 p1 p2 p3 p4 p5 p6 p7 p8:Int}{a b c:Bool}:(bif a then(some (VV.v (.tuple #[.agg #[.i p0,.i p1,.i p2,.i p3,.i p4,.i p5,.i p6,.i p7,.i p8],.bool true])):R)else(bif b then(some (.v (.tuple #[.agg #[.i p0,.i p1,.i p2,.i p3,.i p4,.i p5,.i p6,.i p7,.i p8],.bool true])))else(some (.v (.tuple #[.agg #[.i p0,.i p1,.i p2,.i p3,.i p4,.i p5,.i p6,.i p7,.i p8],.bool c])))))=some (.v (.tuple #[.agg #[.i p0,.i p1,.i p2,.i p3,.i p4,.i p5,.i p6,.i p7,.i p8],.bool (a||b||c)])):=by
 cases a<;>cases b<;>rfl
theorem zUJ(F:Nat)(hF:200<=F){a0 a1 a2 a3 a4 a5 a6 a7 a8 b0 b1 b2 b3 b4 b5 b6 b7 b8:Int}(ha0:zr a0)(ha1:zr a1)(ha2:zr a2)(ha3:zr a3)(ha4:zr a4)(ha5:zr a5)(ha6:zr a6)(ha7:zr a7)(ha8:zr a8)(hb0:zr b0)(hb1:zr b1)(hb2:zr b2)(hb3:zr b3)(hb4:zr b4)(hb5:zr b5)(hb6:zr b6)(hb7:zr b7)(hb8:zr b8):zJ.ok F a0 a1 a2 a3 a4 a5 a6 a7 a8 b0 b1 b2 b3 b4 b5 b6 b7 b8=true/\zJ.i 0 F a0 a1 a2 a3 a4 a5 a6 a7 a8 b0 b1 b2 b3 b4 b5 b6 b7 b8=zh (jA a0 a1 a2 b0 b3 b6)/\zJ.i 1 F a0 a1 a2 a3 a4 a5 a6 a7 a8 b0 b1 b2 b3 b4 b5 b6 b7 b8=zh (jA a0 a1 a2 b1 b4 b7)/\zJ.i 2 F a0 a1 a2 a3 a4 a5 a6 a7 a8 b0 b1 b2 b3 b4 b5 b6 b7 b8=zh (jA a0 a1 a2 b2 b5 b8)/\zJ.i 3 F a0 a1 a2 a3 a4 a5 a6 a7 a8 b0 b1 b2 b3 b4 b5 b6 b7 b8=zh (jA a3 a4 a5 b0 b3 b6)/\zJ.i 4 F a0 a1 a2 a3 a4 a5 a6 a7 a8 b0 b1 b2 b3 b4 b5 b6 b7 b8=zh (jA a3 a4 a5 b1 b4 b7)/\zJ.i 5 F a0 a1 a2 a3 a4 a5 a6 a7 a8 b0 b1 b2 b3 b4 b5 b6 b7 b8=zh (jA a3 a4 a5 b2 b5 b8)/\zJ.i 6 F a0 a1 a2 a3 a4 a5 a6 a7 a8 b0 b1 b2 b3 b4 b5 b6 b7 b8=zh (jA a6 a7 a8 b0 b3 b6)/\zJ.i 7 F a0 a1 a2 a3 a4 a5 a6 a7 a8 b0 b1 b2 b3 b4 b5 b6 b7 b8=zh (jA a6 a7 a8 b1 b4 b7)/\zJ.i 8 F a0 a1 a2 a3 a4 a5 a6 a7 a8 b0 b1 b2 b3 b4 b5 b6 b7 b8=zh (jA a6 a7 a8 b2 b5 b8)/\zJ.b 9 F a0 a1 a2 a3 a4 a5 a6 a7 a8 b0 b1 b2 b3 b4 b5 b6 b7 b8=((zw (jA a0 a1 a2 b0 b3 b6)||zw (jA a0 a1 a2 b1 b4 b7)||zw (jA a0 a1 a2 b2 b5 b8))||(zw (jA a3 a4 a5 b0 b3 b6)||zw (jA a3 a4 a5 b1 b4 b7)||zw (jA a3 a4 a5 b2 b5 b8))||(zw (jA a6 a7 a8 b0 b3 b6)||zw (jA a6 a7 a8 b1 b4 b7)||zw (jA a6 a7 a8 b2 b5 b8))):=by
 refine zKC F _ _ _ _ _ _ _ _ _ _ _ _ _ _ _ _ _ _ ?_;unfold zsV zrf;obtain⟨b0_,bb0,bb1,bb2,bb3,bb4,bb5,bb6,bb7,bb8⟩:=zPf F b0 b1 b2 b3 b4 b5 b6 b7 b8;obtain⟨s00,s01,s02,s03,s04⟩:=zv7 F hF ha0 ha1 ha2 ha3 ha4 ha5 ha6 ha7 ha8 hb0 hb3 hb6;obtain⟨s10,s11,s12,s13,s14⟩:=zv7 F hF ha0 ha1 ha2 ha3 ha4 ha5 ha6 ha7 ha8 hb1 hb4 hb7;obtain⟨s20,s21,s22,s23,s24⟩:=zv7 F hF ha0 ha1 ha2 ha3 ha4 ha5 ha6 ha7 ha8 hb2 hb5 hb8;refine bp b0_ ?_;rw [bb0,bb1,bb2,bb3,bb4,bb5,bb6,bb7,bb8];refine bp s00 (bp s10 (bp s20 ?_));rw [s01,s02,s03,s04,s11,s12,s13,s14,s21,s22,s23,s24];obtain⟨f0_,ff0,ff1,ff2,ff3,ff4,ff5,ff6,ff7,ff8⟩:=zPf F (zh (jA a0 a1 a2 b0 b3 b6)) (zh (jA a3 a4 a5 b0 b3 b6)) (zh (jA a6 a7 a8 b0 b3 b6)) (zh (jA a0 a1 a2 b1 b4 b7)) (zh (jA a3 a4 a5 b1 b4 b7)) (zh (jA a6 a7 a8 b1 b4 b7)) (zh (jA a0 a1 a2 b2 b5 b8)) (zh (jA a3 a4 a5 b2 b5 b8)) (zh (jA a6 a7 a8 b2 b5 b8))
 refine bp f0_ ?_;rw [ff0,ff1,ff2,ff3,ff4,ff5,ff6,ff7,ff8];rw [<-or9];exact zYl
theorem zpS(x:Int):wrap .i64 (0-zc7 x)= -zc7 x:=by
 have:=(zOU x).2;rw [zH (by unfold zr;omega),Int.zero_sub]
theorem zQH(F:Nat)(hF:200<=F){x:Int}(hx:U32 x):zq.ok F 0 x=true/\zq.i 0 F 0 x=4294967296/\zq.i 1 F 0 x=0/\zq.i 2 F 0 x=0/\zq.i 3 F 0 x=0/\zq.i 4 F 0 x=(zdZ x)/\zq.i 5 F 0 x=(-zc7 x)/\zq.i 6 F 0 x=0/\zq.i 7 F 0 x=(zc7 x)/\zq.i 8 F 0 x=(zdZ x)/\zq.i 9 F 0 x=0:=by
 refine zsS F _ _ ?_;unfold zkA zh4;obtain⟨h1,h2,h3⟩:=zFA F hF hx;obtain⟨m0,mm0,mm1,mm2,mm3,mm4,mm5,mm6,mm7,mm8⟩:=zv6 F hF;have w1:Int.tmod (wrap .i64 (0+1)) 3=1:=dcz;have w2:Int.tmod (wrap .i64 (0+2)) 3=2:=dcz;refine bn rfl (bn rfl (bp h1 ?_));rw [h2,h3,w1,w2];refine bp m0 ?_;rw [mm0,mm1,mm2,mm3,mm4,mm5,mm6,mm7,mm8];dsimp only;rw [zpS];refine bp rfl (bp rfl (bp rfl (bp rfl (bp rfl (bp rfl (bp rfl (bp rfl (bp rfl (bp rfl (bp rfl (bp rfl (bp rfl ?_))))))))))));rfl
theorem zQI(F:Nat)(hF:200<=F){x:Int}(hx:U32 x):zk.ok F 0 x=true/\zk.i 0 F 0 x=4294967296/\zk.i 1 F 0 x=0/\zk.i 2 F 0 x=0/\zk.i 3 F 0 x=0/\zk.i 4 F 0 x=(zdZ x)/\zk.i 5 F 0 x=(-zc7 x)/\zk.i 6 F 0 x=0/\zk.i 7 F 0 x=(zc7 x)/\zk.i 8 F 0 x=(zdZ x)/\zk.i 9 F 0 x=0:=by
 refine zo2 F _ _ ?_;unfold zf5 zfh;obtain⟨h1,h2,h3⟩:=zFB F hF hx;refine bp h1 ?_;rw [h2,h3];dsimp only;rw [zpS];exact bp rfl rfl
theorem zQJ(F:Nat)(hF:200<=F){x:Int}(hx:U32 x):zq.ok F 1 x=true/\zq.i 0 F 1 x=(zdZ x)/\zq.i 1 F 1 x=0/\zq.i 2 F 1 x=(zc7 x)/\zq.i 3 F 1 x=0/\zq.i 4 F 1 x=4294967296/\zq.i 5 F 1 x=0/\zq.i 6 F 1 x=(-zc7 x)/\zq.i 7 F 1 x=0/\zq.i 8 F 1 x=(zdZ x)/\zq.i 9 F 1 x=0:=by
 refine zsS F _ _ ?_;unfold zkA zh4;obtain⟨h1,h2,h3⟩:=zFA F hF hx;obtain⟨m0,mm0,mm1,mm2,mm3,mm4,mm5,mm6,mm7,mm8⟩:=zv6 F hF;have w1:Int.tmod (wrap .i64 (1+1)) 3=2:=dcz;have w2:Int.tmod (wrap .i64 (1+2)) 3=0:=dcz;refine bn rfl (bn rfl (bp h1 ?_));rw [h2,h3,w1,w2];refine bp m0 ?_;rw [mm0,mm1,mm2,mm3,mm4,mm5,mm6,mm7,mm8];dsimp only;rw [zpS];refine bp rfl (bp rfl (bp rfl (bp rfl (bp rfl (bp rfl (bp rfl (bp rfl (bp rfl (bp rfl (bp rfl (bp rfl (bp rfl ?_))))))))))));rfl
theorem zQK(F:Nat)(hF:200<=F){x:Int}(hx:U32 x):zk.ok F 1 x=true/\zk.i 0 F 1 x=(zdZ x)/\zk.i 1 F 1 x=0/\zk.i 2 F 1 x=(zc7 x)/\zk.i 3 F 1 x=0/\zk.i 4 F 1 x=4294967296/\zk.i 5 F 1 x=0/\zk.i 6 F 1 x=(-zc7 x)/\zk.i 7 F 1 x=0/\zk.i 8 F 1 x=(zdZ x)/\zk.i 9 F 1 x=0:=by
 refine zo2 F _ _ ?_;unfold zf5 zfh;obtain⟨h1,h2,h3⟩:=zFB F hF hx;refine bp h1 ?_;rw [h2,h3];dsimp only;rw [zpS];exact bn rfl (bp rfl rfl)
theorem zQL(F:Nat)(hF:200<=F){x:Int}(hx:U32 x):zq.ok F 2 x=true/\zq.i 0 F 2 x=(zdZ x)/\zq.i 1 F 2 x=(-zc7 x)/\zq.i 2 F 2 x=0/\zq.i 3 F 2 x=(zc7 x)/\zq.i 4 F 2 x=(zdZ x)/\zq.i 5 F 2 x=0/\zq.i 6 F 2 x=0/\zq.i 7 F 2 x=0/\zq.i 8 F 2 x=4294967296/\zq.i 9 F 2 x=0:=by
 refine zsS F _ _ ?_;unfold zkA zh4;obtain⟨h1,h2,h3⟩:=zFA F hF hx;obtain⟨m0,mm0,mm1,mm2,mm3,mm4,mm5,mm6,mm7,mm8⟩:=zv6 F hF;have w1:Int.tmod (wrap .i64 (2+1)) 3=0:=dcz;have w2:Int.tmod (wrap .i64 (2+2)) 3=1:=dcz;refine bn rfl (bn rfl (bp h1 ?_));rw [h2,h3,w1,w2];refine bp m0 ?_;rw [mm0,mm1,mm2,mm3,mm4,mm5,mm6,mm7,mm8];dsimp only;rw [zpS];refine bp rfl (bp rfl (bp rfl (bp rfl (bp rfl (bp rfl (bp rfl (bp rfl (bp rfl (bp rfl (bp rfl (bp rfl (bp rfl ?_))))))))))));rfl
theorem zQM(F:Nat)(hF:200<=F){x:Int}(hx:U32 x):zk.ok F 2 x=true/\zk.i 0 F 2 x=(zdZ x)/\zk.i 1 F 2 x=(-zc7 x)/\zk.i 2 F 2 x=0/\zk.i 3 F 2 x=(zc7 x)/\zk.i 4 F 2 x=(zdZ x)/\zk.i 5 F 2 x=0/\zk.i 6 F 2 x=0/\zk.i 7 F 2 x=0/\zk.i 8 F 2 x=4294967296/\zk.i 9 F 2 x=0:=by
 refine zo2 F _ _ ?_;unfold zf5 zfh;obtain⟨h1,h2,h3⟩:=zFB F hF hx;refine bp h1 ?_;rw [h2,h3];dsimp only;rw [zpS];exact bn rfl (bn rfl (bp rfl rfl))
theorem zQN(F:Nat)(hF:200<=F){a0 a1 a2 a3 a4 a5 a6 a7 a8:Int}(ha0:zr a0)(ha3:zr a3):zbh.ok F a0 a1 a2 a3 a4 a5 a6 a7 a8=true/\zbh.i 0 F a0 a1 a2 a3 a4 a5 a6 a7 a8=zcQ a3 a0:=by
 refine zCN F _ _ _ _ _ _ _ _ _ ?_;unfold zo0 zm4;obtain⟨h1,h2⟩:=zSE F hF ha3 ha0;refine bp h1 ?_;rw [h2]
theorem zND(F:Nat)(hF:200<=F){a0 a1 a2 a3 a4 a5 a6 a7 a8:Int}(ha0:zr a0)(ha3:zr a3):zaB.ok F a0 a1 a2 a3 a4 a5 a6 a7 a8=true/\zaB.i 0 F a0 a1 a2 a3 a4 a5 a6 a7 a8=zcQ a3 a0:=by
 refine zza F _ _ _ _ _ _ _ _ _ ?_;unfold zk6 zi7;obtain⟨h1,h2⟩:=zSG F hF ha3 ha0;refine bp h1 ?_;rw [h2]
def zKE:Cfg:=⟨[0,1,2,3,4,5,6,7,8,9,10,11,12,13,14,22,68],[],[],[]⟩
def zoa:Sg:=⟨[.v (.agg [.i,.i,.i,.i,.i,.i,.i,.i,.i])],.v (.tup [.agg [.i,.i,.i,.i,.i,.i,.i,.i,.i],.bool])⟩
def zKF(zac:Qi3)(zl:Q0)(yO:Qi6)(jp:Qi4)(zaw zao:Qi6)(F:Nat):=zS [(162,zz zq7 ki3 zac F),(56,zz zi6 k0 zl F),(85,zz zmo ki6 yO F),(91,zz zkz ki4 jp F),(90,zz zpQ ki6 zaw F),(163,zz zn0 ki6 zao F)]
def zrh(zac:Qi3)(zl:Q0)(yO:Qi6)(jp:Qi4)(zaw zao:Qi6)(F:Nat):FT ki9:=fun p s t l m o r j A=>bif(zac.ok F p s t)then let a:Int:=zac.i 0 F p s t;let c:Int:=zac.i 1 F p s t;let d:Int:=zac.i 2 F p s t;bif(!(zac.b 3 F p s t))then bif(zl.ok F)then some (.v (.tuple #[.agg #[.i (zl.i 0 F),.i (zl.i 1 F),.i (zl.i 2 F),.i (zl.i 3 F),.i (zl.i 4 F),.i (zl.i 5 F),.i (zl.i 6 F),.i (zl.i 7 F),.i (zl.i 8 F)],.bool false]))else none else bif(yO.ok F l m o a c d)then let u:Int:=yO.i 0 F l m o a c d;bif(jp.ok F a c d u)then let w:Int:=jp.i 0 F a c d u;let x:Int:=jp.i 1 F a c d u;let y:Int:=jp.i 2 F a c d u;bif(zaw.ok F l m o w x y)then let z:Int:=zaw.i 0 F l m o w x y;let f:Int:=zaw.i 1 F l m o w x y;let n:Int:=zaw.i 2 F l m o w x y;bif(zac.ok F z f n)then let e:Int:=zac.i 0 F z f n;let g:Int:=zac.i 1 F z f n;let h:Int:=zac.i 2 F z f n;bif(zao.ok F a c d e g h)then bif(!(zac.b 3 F z f n))then bif(zl.ok F)then some (.v (.tuple #[.agg #[.i (zl.i 0 F),.i (zl.i 1 F),.i (zl.i 2 F),.i (zl.i 3 F),.i (zl.i 4 F),.i (zl.i 5 F),.i (zl.i 6 F),.i (zl.i 7 F),.i (zl.i 8 F)],.bool false]))else none else bif(yO.b 1 F l m o a c d)then bif(zl.ok F)then some (.v (.tuple #[.agg #[.i (zl.i 0 F),.i (zl.i 1 F),.i (zl.i 2 F),.i (zl.i 3 F),.i (zl.i 4 F),.i (zl.i 5 F),.i (zl.i 6 F),.i (zl.i 7 F),.i (zl.i 8 F)],.bool false]))else none else bif(jp.b 3 F a c d u)then bif(zl.ok F)then some (.v (.tuple #[.agg #[.i (zl.i 0 F),.i (zl.i 1 F),.i (zl.i 2 F),.i (zl.i 3 F),.i (zl.i 4 F),.i (zl.i 5 F),.i (zl.i 6 F),.i (zl.i 7 F),.i (zl.i 8 F)],.bool false]))else none else bif(zaw.b 3 F l m o w x y)then bif(zl.ok F)then some (.v (.tuple #[.agg #[.i (zl.i 0 F),.i (zl.i 1 F),.i (zl.i 2 F),.i (zl.i 3 F),.i (zl.i 4 F),.i (zl.i 5 F),.i (zl.i 6 F),.i (zl.i 7 F),.i (zl.i 8 F)],.bool false]))else none else bif(zao.b 3 F a c d e g h)then bif(zl.ok F)then some (.v (.tuple #[.agg #[.i (zl.i 0 F),.i (zl.i 1 F),.i (zl.i 2 F),.i (zl.i 3 F),.i (zl.i 4 F),.i (zl.i 5 F),.i (zl.i 6 F),.i (zl.i 7 F),.i (zl.i 8 F)],.bool false]))else none else some (.v (.tuple #[.agg #[.i a,.i c,.i d,.i e,.i g,.i h,.i (zao.i 0 F a c d e g h),.i (zao.i 1 F a c d e g h),.i (zao.i 2 F a c d e g h)],.bool true]))else none else none else none else none else none else none
def zob:=zrh zac zl yO jp zaw zao
def zO:Qi9:=mkQ (l:=ki9) zoa.o zob
theorem zKG(zac:Qi3)(zl:Q0)(yO:Qi6)(jp:Qi4)(zaw zao:Qi6)(F:Nat):HHz zoa ki9 (zKF zac zl yO jp zaw zao F) zKE [] 133 (zrh zac zl yO jp zaw zao F):=hzz
theorem zKH(F:Nat)(a c d e g h l m o:Int):zRP (zob F a c d e g h l m o) (zO.ok F a c d e g h l m o) (zO.i 0 F a c d e g h l m o) (zO.i 1 F a c d e g h l m o) (zO.i 2 F a c d e g h l m o) (zO.i 3 F a c d e g h l m o) (zO.i 4 F a c d e g h l m o) (zO.i 5 F a c d e g h l m o) (zO.i 6 F a c d e g h l m o) (zO.i 7 F a c d e g h l m o) (zO.i 8 F a c d e g h l m o) (zO.b 9 F a c d e g h l m o):=zUi _
theorem zKI(F:Nat):yc PP 133 (unS (zz zoa ki9 zO F)):=
 gzz F (zKG zac zl yO jp zaw zao F) (zd (zNs F) (zd (zu4 F) (zd (zxi F) (zd (zyk F) (zd (zEi F) (zd (zKd F) zn))))))
def zCY:Cfg:=⟨[0,1,2,3,4,5,6,7,8,9,10,11,12,13,14,15,23,60,68],[],[],[]⟩
def zjO:Sg:=⟨[.v (.agg [.i,.i,.i,.i,.i,.i,.i,.i,.i])],.v (.tup [.agg [.i,.i,.i,.i,.i,.i,.i,.i,.i],.bool])⟩
def zCZ(ja:Qi3)(zj:Q0)(yz:Qi6)(yH:Qi4)(jo ju:Qi6)(F:Nat):=zS [(146,zz zlP ki3 ja F),(59,zz zh5 k0 zj F),(114,zz zg2 ki6 yz F),(65,zz zf4 ki4 yH F),(64,zz zky ki6 jo F),(147,zz zjK ki6 ju F)]
def zm6(ja:Qi3)(zj:Q0)(yz:Qi6)(yH:Qi4)(jo ju:Qi6)(F:Nat):FT ki9:=fun p s t l m o r j A=>bif(ja.ok F p s t)then let a:Int:=ja.i 0 F p s t;let c:Int:=ja.i 1 F p s t;let d:Int:=ja.i 2 F p s t;bif(!(ja.b 3 F p s t))then bif(zj.ok F)then some (.v (.tuple #[.agg #[.i (zj.i 0 F),.i (zj.i 1 F),.i (zj.i 2 F),.i (zj.i 3 F),.i (zj.i 4 F),.i (zj.i 5 F),.i (zj.i 6 F),.i (zj.i 7 F),.i (zj.i 8 F)],.bool false]))else none else bif(yz.ok F l m o a c d)then let u:Int:=yz.i 0 F l m o a c d;bif(yH.ok F a c d u)then let w:Int:=yH.i 0 F a c d u;let x:Int:=yH.i 1 F a c d u;let y:Int:=yH.i 2 F a c d u;bif(jo.ok F l m o w x y)then let z:Int:=jo.i 0 F l m o w x y;let f:Int:=jo.i 1 F l m o w x y;let n:Int:=jo.i 2 F l m o w x y;bif(ja.ok F z f n)then let e:Int:=ja.i 0 F z f n;let g:Int:=ja.i 1 F z f n;let h:Int:=ja.i 2 F z f n;bif(yz.b 1 F l m o a c d)then bif(zj.ok F)then some (.v (.tuple #[.agg #[.i (zj.i 0 F),.i (zj.i 1 F),.i (zj.i 2 F),.i (zj.i 3 F),.i (zj.i 4 F),.i (zj.i 5 F),.i (zj.i 6 F),.i (zj.i 7 F),.i (zj.i 8 F)],.bool false]))else none else bif(yH.b 3 F a c d u)then bif(zj.ok F)then some (.v (.tuple #[.agg #[.i (zj.i 0 F),.i (zj.i 1 F),.i (zj.i 2 F),.i (zj.i 3 F),.i (zj.i 4 F),.i (zj.i 5 F),.i (zj.i 6 F),.i (zj.i 7 F),.i (zj.i 8 F)],.bool false]))else none else bif(jo.b 3 F l m o w x y)then bif(zj.ok F)then some (.v (.tuple #[.agg #[.i (zj.i 0 F),.i (zj.i 1 F),.i (zj.i 2 F),.i (zj.i 3 F),.i (zj.i 4 F),.i (zj.i 5 F),.i (zj.i 6 F),.i (zj.i 7 F),.i (zj.i 8 F)],.bool false]))else none else bif(!(ja.b 3 F z f n))then bif(zj.ok F)then some (.v (.tuple #[.agg #[.i (zj.i 0 F),.i (zj.i 1 F),.i (zj.i 2 F),.i (zj.i 3 F),.i (zj.i 4 F),.i (zj.i 5 F),.i (zj.i 6 F),.i (zj.i 7 F),.i (zj.i 8 F)],.bool false]))else none else bif(ju.ok F a c d e g h)then bif(ju.b 3 F a c d e g h)then bif(zj.ok F)then some (.v (.tuple #[.agg #[.i (zj.i 0 F),.i (zj.i 1 F),.i (zj.i 2 F),.i (zj.i 3 F),.i (zj.i 4 F),.i (zj.i 5 F),.i (zj.i 6 F),.i (zj.i 7 F),.i (zj.i 8 F)],.bool false]))else none else some (.v (.tuple #[.agg #[.i a,.i c,.i d,.i e,.i g,.i h,.i (ju.i 0 F a c d e g h),.i (ju.i 1 F a c d e g h),.i (ju.i 2 F a c d e g h)],.bool true]))else none else none else none else none else none else none
def zjP:=zm6 ja zj yz yH jo ju
def zD:Qi9:=mkQ (l:=ki9) zjO.o zjP
theorem zC0(ja:Qi3)(zj:Q0)(yz:Qi6)(yH:Qi4)(jo ju:Qi6)(F:Nat):HHz zjO ki9 (zCZ ja zj yz yH jo ju F) zCY [] 109 (zm6 ja zj yz yH jo ju F):=hzz
theorem zC1(F:Nat)(a c d e g h l m o:Int):zRP (zjP F a c d e g h l m o) (zD.ok F a c d e g h l m o) (zD.i 0 F a c d e g h l m o) (zD.i 1 F a c d e g h l m o) (zD.i 2 F a c d e g h l m o) (zD.i 3 F a c d e g h l m o) (zD.i 4 F a c d e g h l m o) (zD.i 5 F a c d e g h l m o) (zD.i 6 F a c d e g h l m o) (zD.i 7 F a c d e g h l m o) (zD.i 8 F a c d e g h l m o) (zD.b 9 F a c d e g h l m o):=zUi _
theorem zC2(F:Nat):yc PP 109 (unS (zz zjO ki9 zD F)):=
 gzz F (zC0 ja zj yz yH jo ju F) (zd (zGq F) (zd (zv5 F) (zd (zsM F) (zd (zue F) (zd (zyj F) (zd (zCA F) zn))))))
noncomputable def oD(a0 a1 a2 a3 a4 a5 a6 a7 a8:Int):Int:=zh (jA a3 a4 a5 (unV a0 a0 a1 a2) (unV a1 a0 a1 a2) (unV a2 a0 a1 a2))
noncomputable def oR0(a0 a1 a2 a3 a4 a5 a6 a7 a8:Int):Int:=zh (a3-zh (pr (unV a0 a0 a1 a2) (oD a0 a1 a2 a3 a4 a5 a6 a7 a8)))
noncomputable def oR1(a0 a1 a2 a3 a4 a5 a6 a7 a8:Int):Int:=zh (a4-zh (pr (unV a1 a0 a1 a2) (oD a0 a1 a2 a3 a4 a5 a6 a7 a8)))
noncomputable def oR2(a0 a1 a2 a3 a4 a5 a6 a7 a8:Int):Int:=zh (a5-zh (pr (unV a2 a0 a1 a2) (oD a0 a1 a2 a3 a4 a5 a6 a7 a8)))
noncomputable def oY0(a0 a1 a2 a3 a4 a5 a6 a7 a8:Int):Int:=unV (oR0 a0 a1 a2 a3 a4 a5 a6 a7 a8) (oR0 a0 a1 a2 a3 a4 a5 a6 a7 a8) (oR1 a0 a1 a2 a3 a4 a5 a6 a7 a8) (oR2 a0 a1 a2 a3 a4 a5 a6 a7 a8)
noncomputable def oY1(a0 a1 a2 a3 a4 a5 a6 a7 a8:Int):Int:=unV (oR1 a0 a1 a2 a3 a4 a5 a6 a7 a8) (oR0 a0 a1 a2 a3 a4 a5 a6 a7 a8) (oR1 a0 a1 a2 a3 a4 a5 a6 a7 a8) (oR2 a0 a1 a2 a3 a4 a5 a6 a7 a8)
noncomputable def oY2(a0 a1 a2 a3 a4 a5 a6 a7 a8:Int):Int:=unV (oR2 a0 a1 a2 a3 a4 a5 a6 a7 a8) (oR0 a0 a1 a2 a3 a4 a5 a6 a7 a8) (oR1 a0 a1 a2 a3 a4 a5 a6 a7 a8) (oR2 a0 a1 a2 a3 a4 a5 a6 a7 a8)
noncomputable def oZ0(a0 a1 a2 a3 a4 a5 a6 a7 a8:Int):Int:=zh (arZ (unV a1 a0 a1 a2) (oY2 a0 a1 a2 a3 a4 a5 a6 a7 a8) (unV a2 a0 a1 a2) (oY1 a0 a1 a2 a3 a4 a5 a6 a7 a8))
noncomputable def oZ1(a0 a1 a2 a3 a4 a5 a6 a7 a8:Int):Int:=zh (arZ (unV a2 a0 a1 a2) (oY0 a0 a1 a2 a3 a4 a5 a6 a7 a8) (unV a0 a0 a1 a2) (oY2 a0 a1 a2 a3 a4 a5 a6 a7 a8))
noncomputable def oZ2(a0 a1 a2 a3 a4 a5 a6 a7 a8:Int):Int:=zh (arZ (unV a0 a0 a1 a2) (oY1 a0 a1 a2 a3 a4 a5 a6 a7 a8) (unV a1 a0 a1 a2) (oY0 a0 a1 a2 a3 a4 a5 a6 a7 a8))
noncomputable def zo4(a0 a1 a2 a3 a4 a5 a6 a7 a8:Int):Bool:=zgS a0 a1 a2&&(zgS (oR0 a0 a1 a2 a3 a4 a5 a6 a7 a8) (oR1 a0 a1 a2 a3 a4 a5 a6 a7 a8) (oR2 a0 a1 a2 a3 a4 a5 a6 a7 a8)&&(!zw (jA a3 a4 a5 (unV a0 a0 a1 a2) (unV a1 a0 a1 a2) (unV a2 a0 a1 a2))&&(!(zw (pr (unV a0 a0 a1 a2) (oD a0 a1 a2 a3 a4 a5 a6 a7 a8))||zw (pr (unV a1 a0 a1 a2) (oD a0 a1 a2 a3 a4 a5 a6 a7 a8))||zw (pr (unV a2 a0 a1 a2) (oD a0 a1 a2 a3 a4 a5 a6 a7 a8)))&&(!(zw (a3-zh (pr (unV a0 a0 a1 a2) (oD a0 a1 a2 a3 a4 a5 a6 a7 a8)))||zw (a4-zh (pr (unV a1 a0 a1 a2) (oD a0 a1 a2 a3 a4 a5 a6 a7 a8)))||zw (a5-zh (pr (unV a2 a0 a1 a2) (oD a0 a1 a2 a3 a4 a5 a6 a7 a8))))&& !(zw (arZ (unV a1 a0 a1 a2) (oY2 a0 a1 a2 a3 a4 a5 a6 a7 a8) (unV a2 a0 a1 a2) (oY1 a0 a1 a2 a3 a4 a5 a6 a7 a8))||zw (arZ (unV a2 a0 a1 a2) (oY0 a0 a1 a2 a3 a4 a5 a6 a7 a8) (unV a0 a0 a1 a2) (oY2 a0 a1 a2 a3 a4 a5 a6 a7 a8))||zw (arZ (unV a0 a0 a1 a2) (oY1 a0 a1 a2 a3 a4 a5 a6 a7 a8) (unV a1 a0 a1 a2) (oY0 a0 a1 a2 a3 a4 a5 a6 a7 a8)))))))
noncomputable def zGL(a0 a1 a2 a3 a4 a5 a6 a7 a8:Int):Int:=if zo4 a0 a1 a2 a3 a4 a5 a6 a7 a8=true then(unV a0 a0 a1 a2)else 4294967296
noncomputable def zGM(a0 a1 a2 a3 a4 a5 a6 a7 a8:Int):Int:=if zo4 a0 a1 a2 a3 a4 a5 a6 a7 a8=true then(unV a1 a0 a1 a2)else 0
noncomputable def zGN(a0 a1 a2 a3 a4 a5 a6 a7 a8:Int):Int:=if zo4 a0 a1 a2 a3 a4 a5 a6 a7 a8=true then(unV a2 a0 a1 a2)else 0
noncomputable def zGO(a0 a1 a2 a3 a4 a5 a6 a7 a8:Int):Int:=if zo4 a0 a1 a2 a3 a4 a5 a6 a7 a8=true then(oY0 a0 a1 a2 a3 a4 a5 a6 a7 a8)else 0
noncomputable def zGP(a0 a1 a2 a3 a4 a5 a6 a7 a8:Int):Int:=if zo4 a0 a1 a2 a3 a4 a5 a6 a7 a8=true then(oY1 a0 a1 a2 a3 a4 a5 a6 a7 a8)else 4294967296
noncomputable def zGQ(a0 a1 a2 a3 a4 a5 a6 a7 a8:Int):Int:=if zo4 a0 a1 a2 a3 a4 a5 a6 a7 a8=true then(oY2 a0 a1 a2 a3 a4 a5 a6 a7 a8)else 0
noncomputable def zGR(a0 a1 a2 a3 a4 a5 a6 a7 a8:Int):Int:=if zo4 a0 a1 a2 a3 a4 a5 a6 a7 a8=true then(oZ0 a0 a1 a2 a3 a4 a5 a6 a7 a8)else 0
noncomputable def zGS(a0 a1 a2 a3 a4 a5 a6 a7 a8:Int):Int:=if zo4 a0 a1 a2 a3 a4 a5 a6 a7 a8=true then(oZ1 a0 a1 a2 a3 a4 a5 a6 a7 a8)else 0
noncomputable def zGT(a0 a1 a2 a3 a4 a5 a6 a7 a8:Int):Int:=if zo4 a0 a1 a2 a3 a4 a5 a6 a7 a8=true then(oZ2 a0 a1 a2 a3 a4 a5 a6 a7 a8)else 4294967296
theorem zv8(a b:Int):zr (zld a b):=by
 unfold zld;split
 ·unfold zr;split<;>(try split)<;>omega
 ·exact jk _
theorem ziG(k a b c:Int):zr (unV k a b c):=by
 unfold unV;split
 ·exact zv8 _ _
 ·unfold zr;omega
theorem zKJ{x0 x1 x2 x3 x4 x5 x6 x7 x8 y0 y1 y2 y3 y4 y5 y6 y7 y8:Int}{c d:Bool}(h0:x0=y0)(h1:x1=y1)(h2:x2=y2)(h3:x3=y3)(h4:x4=y4)(h5:x5=y5)(h6:x6=y6)(h7:x7=y7)(h8:x8=y8)(h:c=d):(some (VV.v (.tuple #[.agg #[.i x0,.i x1,.i x2,.i x3,.i x4,.i x5,.i x6,.i x7,.i x8],.bool c])):R)=some (.v (.tuple #[.agg #[.i y0,.i y1,.i y2,.i y3,.i y4,.i y5,.i y6,.i y7,.i y8],.bool d])):=by
 rw [h0,h1,h2,h3,h4,h5,h6,h7,h8,h]
theorem zSI{a0 a1 a2 a3 a4 a5 a6 a7 a8:Int}(h:zo4 a0 a1 a2 a3 a4 a5 a6 a7 a8=false):(some (VV.v (.tuple #[.agg #[.i 4294967296,.i 0,.i 0,.i 0,.i 4294967296,.i 0,.i 0,.i 0,.i 4294967296],.bool false])):R)=some (.v (.tuple #[.agg #[.i (zGL a0 a1 a2 a3 a4 a5 a6 a7 a8),.i (zGM a0 a1 a2 a3 a4 a5 a6 a7 a8),.i (zGN a0 a1 a2 a3 a4 a5 a6 a7 a8),.i (zGO a0 a1 a2 a3 a4 a5 a6 a7 a8),.i (zGP a0 a1 a2 a3 a4 a5 a6 a7 a8),.i (zGQ a0 a1 a2 a3 a4 a5 a6 a7 a8),.i (zGR a0 a1 a2 a3 a4 a5 a6 a7 a8),.i (zGS a0 a1 a2 a3 a4 a5 a6 a7 a8),.i (zGT a0 a1 a2 a3 a4 a5 a6 a7 a8)],.bool (zo4 a0 a1 a2 a3 a4 a5 a6 a7 a8)])):=by
 refine zKJ ?_ ?_ ?_ ?_ ?_ ?_ ?_ ?_ ?_ h.symm
 ·unfold zGL;rw [h];rfl
 ·unfold zGM;rw [h];rfl
 ·unfold zGN;rw [h];rfl
 ·unfold zGO;rw [h];rfl
 ·unfold zGP;rw [h];rfl
 ·unfold zGQ;rw [h];rfl
 ·unfold zGR;rw [h];rfl
 ·unfold zGS;rw [h];rfl
 ·unfold zGT;rw [h];rfl
theorem zPg{a0 a1 a2 a3 a4 a5 a6 a7 a8:Int}(h:zo4 a0 a1 a2 a3 a4 a5 a6 a7 a8=true):(some (VV.v (.tuple #[.agg #[.i (unV a0 a0 a1 a2),.i (unV a1 a0 a1 a2),.i (unV a2 a0 a1 a2),.i (oY0 a0 a1 a2 a3 a4 a5 a6 a7 a8),.i (oY1 a0 a1 a2 a3 a4 a5 a6 a7 a8),.i (oY2 a0 a1 a2 a3 a4 a5 a6 a7 a8),.i (oZ0 a0 a1 a2 a3 a4 a5 a6 a7 a8),.i (oZ1 a0 a1 a2 a3 a4 a5 a6 a7 a8),.i (oZ2 a0 a1 a2 a3 a4 a5 a6 a7 a8)],.bool true])):R)=some (.v (.tuple #[.agg #[.i (zGL a0 a1 a2 a3 a4 a5 a6 a7 a8),.i (zGM a0 a1 a2 a3 a4 a5 a6 a7 a8),.i (zGN a0 a1 a2 a3 a4 a5 a6 a7 a8),.i (zGO a0 a1 a2 a3 a4 a5 a6 a7 a8),.i (zGP a0 a1 a2 a3 a4 a5 a6 a7 a8),.i (zGQ a0 a1 a2 a3 a4 a5 a6 a7 a8),.i (zGR a0 a1 a2 a3 a4 a5 a6 a7 a8),.i (zGS a0 a1 a2 a3 a4 a5 a6 a7 a8),.i (zGT a0 a1 a2 a3 a4 a5 a6 a7 a8)],.bool (zo4 a0 a1 a2 a3 a4 a5 a6 a7 a8)])):=by
 refine zKJ ?_ ?_ ?_ ?_ ?_ ?_ ?_ ?_ ?_ h.symm
 ·unfold zGL;rw [if_pos h]
 ·unfold zGM;rw [if_pos h]
 ·unfold zGN;rw [if_pos h]
 ·unfold zGO;rw [if_pos h]
 ·unfold zGP;rw [if_pos h]
 ·unfold zGQ;rw [if_pos h]
 ·unfold zGR;rw [if_pos h]
 ·unfold zGS;rw [if_pos h]
 ·unfold zGT;rw [if_pos h]
noncomputable abbrev dz5 (a0 a1 a2 a3 a4 a5:Int):Int:=zh (jA a3 a4 a5 (unV a0 a0 a1 a2) (unV a1 a0 a1 a2) (unV a2 a0 a1 a2))
noncomputable abbrev rz5 (k u a0 a1 a2 a3 a4 a5:Int):Int:=zh (k-zh (pr (unV u a0 a1 a2) (dz5 a0 a1 a2 a3 a4 a5)))
theorem zGU(F:Nat)(hF:200<=F){a0 a1 a2 a3 a4 a5 a6 a7 a8:Int}(ha0:zr a0)(ha1:zr a1)(ha2:zr a2)(ha3:zr a3)(ha4:zr a4)(ha5:zr a5)(ha6:zr a6)(ha7:zr a7)(ha8:zr a8):zob F a0 a1 a2 a3 a4 a5 a6 a7 a8=some (.v (.tuple #[.agg #[.i (zGL a0 a1 a2 a3 a4 a5 a6 a7 a8),.i (zGM a0 a1 a2 a3 a4 a5 a6 a7 a8),.i (zGN a0 a1 a2 a3 a4 a5 a6 a7 a8),.i (zGO a0 a1 a2 a3 a4 a5 a6 a7 a8),.i (zGP a0 a1 a2 a3 a4 a5 a6 a7 a8),.i (zGQ a0 a1 a2 a3 a4 a5 a6 a7 a8),.i (zGR a0 a1 a2 a3 a4 a5 a6 a7 a8),.i (zGS a0 a1 a2 a3 a4 a5 a6 a7 a8),.i (zGT a0 a1 a2 a3 a4 a5 a6 a7 a8)],.bool (zo4 a0 a1 a2 a3 a4 a5 a6 a7 a8)])):=by
 unfold zob zrh;obtain⟨u0,u1,u2,u3,u4⟩:=zPa F hF ha0 ha1 ha2;obtain⟨s0_,ss0,ss1,ss2,ss3,ss4,ss5,ss6,ss7,ss8⟩:=zv6 F hF;have no:=fun h=>zSI (a0:=a0) (a1:=a1) (a2:=a2) (a3:=a3) (a4:=a4) (a5:=a5) (a6:=a6) (a7:=a7) (a8:=a8) h
 have yes:=fun h=>zPg (a0:=a0) (a1:=a1) (a2:=a2) (a3:=a3) (a4:=a4) (a5:=a5) (a6:=a6) (a7:=a7) (a8:=a8) h
 have dx0:=ziG a0 a0 a1 a2;have dx1:=ziG a1 a0 a1 a2;have dx2:=ziG a2 a0 a1 a2;obtain⟨d0,d1,d2⟩:=zKk F hF ha3 ha4 ha5 dx0 dx1 dx2;obtain⟨c0,c1,c2,c3,c4⟩:=zO8 F hF dx0 dx1 dx2 (jk (jA a3 a4 a5 (unV a0 a0 a1 a2) (unV a1 a0 a1 a2) (unV a2 a0 a1 a2)));obtain⟨b0,b1,b2,b3,b4⟩:=zVN F hF ha3 ha4 ha5 (jk (pr (unV a0 a0 a1 a2) (dz5 a0 a1 a2 a3 a4 a5))) (jk (pr (unV a1 a0 a1 a2) (dz5 a0 a1 a2 a3 a4 a5))) (jk (pr (unV a2 a0 a1 a2) (dz5 a0 a1 a2 a3 a4 a5)));obtain⟨v0,v1,v2,v3,v4⟩:=zPa F hF (jk (a3-zh (pr (unV a0 a0 a1 a2) (dz5 a0 a1 a2 a3 a4 a5)))) (jk (a4-zh (pr (unV a1 a0 a1 a2) (dz5 a0 a1 a2 a3 a4 a5)))) (jk (a5-zh (pr (unV a2 a0 a1 a2) (dz5 a0 a1 a2 a3 a4 a5))))
 obtain⟨k0,k1,k2,k3,k4⟩:=zUE F hF dx0 dx1 dx2 (ziG (rz5 a3 a0 a0 a1 a2 a3 a4 a5) (rz5 a3 a0 a0 a1 a2 a3 a4 a5) (rz5 a4 a1 a0 a1 a2 a3 a4 a5) (rz5 a5 a2 a0 a1 a2 a3 a4 a5)) (ziG (rz5 a4 a1 a0 a1 a2 a3 a4 a5) (rz5 a3 a0 a0 a1 a2 a3 a4 a5) (rz5 a4 a1 a0 a1 a2 a3 a4 a5) (rz5 a5 a2 a0 a1 a2 a3 a4 a5)) (ziG (rz5 a5 a2 a0 a1 a2 a3 a4 a5) (rz5 a3 a0 a0 a1 a2 a3 a4 a5) (rz5 a4 a1 a0 a1 a2 a3 a4 a5) (rz5 a5 a2 a0 a1 a2 a3 a4 a5));refine bp u0 ?_;rw [u1,u2,u3,u4];cases q0:zgS a0 a1 a2 with
 |false=>exact bp rfl (bp s0_ (by rw [ss0,ss1,ss2,ss3,ss4,ss5,ss6,ss7,ss8];exact no (by unfold zo4;rw [q0];rfl)))
 |true=>
  refine bn rfl (bp d0 ?_);rw [d1,d2];refine bp c0 ?_;rw [c1,c2,c3,c4];refine bp b0 ?_;rw [b1,b2,b3,b4];refine bp v0 ?_;rw [v1,v2,v3,v4];have eo:zo4 a0 a1 a2 a3 a4 a5 a6 a7 a8=(true&&((zgS (rz5 a3 a0 a0 a1 a2 a3 a4 a5) (rz5 a4 a1 a0 a1 a2 a3 a4 a5) (rz5 a5 a2 a0 a1 a2 a3 a4 a5))&&(!zw (jA a3 a4 a5 (unV a0 a0 a1 a2) (unV a1 a0 a1 a2) (unV a2 a0 a1 a2))&&(!(zw (pr (unV a0 a0 a1 a2) (dz5 a0 a1 a2 a3 a4 a5))||zw (pr (unV a1 a0 a1 a2) (dz5 a0 a1 a2 a3 a4 a5))||zw (pr (unV a2 a0 a1 a2) (dz5 a0 a1 a2 a3 a4 a5)))&&(!(zw (a3-zh (pr (unV a0 a0 a1 a2) (dz5 a0 a1 a2 a3 a4 a5)))||zw (a4-zh (pr (unV a1 a0 a1 a2) (dz5 a0 a1 a2 a3 a4 a5)))||zw (a5-zh (pr (unV a2 a0 a1 a2) (dz5 a0 a1 a2 a3 a4 a5))))&& !(zw (arZ (unV a1 a0 a1 a2) (unV (rz5 a5 a2 a0 a1 a2 a3 a4 a5) (rz5 a3 a0 a0 a1 a2 a3 a4 a5) (rz5 a4 a1 a0 a1 a2 a3 a4 a5) (rz5 a5 a2 a0 a1 a2 a3 a4 a5)) (unV a2 a0 a1 a2) (unV (rz5 a4 a1 a0 a1 a2 a3 a4 a5) (rz5 a3 a0 a0 a1 a2 a3 a4 a5) (rz5 a4 a1 a0 a1 a2 a3 a4 a5) (rz5 a5 a2 a0 a1 a2 a3 a4 a5)))||zw (arZ (unV a2 a0 a1 a2) (unV (rz5 a3 a0 a0 a1 a2 a3 a4 a5) (rz5 a3 a0 a0 a1 a2 a3 a4 a5) (rz5 a4 a1 a0 a1 a2 a3 a4 a5) (rz5 a5 a2 a0 a1 a2 a3 a4 a5)) (unV a0 a0 a1 a2) (unV (rz5 a5 a2 a0 a1 a2 a3 a4 a5) (rz5 a3 a0 a0 a1 a2 a3 a4 a5) (rz5 a4 a1 a0 a1 a2 a3 a4 a5) (rz5 a5 a2 a0 a1 a2 a3 a4 a5)))||zw (arZ (unV a0 a0 a1 a2) (unV (rz5 a4 a1 a0 a1 a2 a3 a4 a5) (rz5 a3 a0 a0 a1 a2 a3 a4 a5) (rz5 a4 a1 a0 a1 a2 a3 a4 a5) (rz5 a5 a2 a0 a1 a2 a3 a4 a5)) (unV a1 a0 a1 a2) (unV (rz5 a3 a0 a0 a1 a2 a3 a4 a5) (rz5 a3 a0 a0 a1 a2 a3 a4 a5) (rz5 a4 a1 a0 a1 a2 a3 a4 a5) (rz5 a5 a2 a0 a1 a2 a3 a4 a5))))))))):=by rw [<-q0];rfl
  refine bp k0 ?_;rw [k1,k2,k3,k4];cases q1:(zgS (rz5 a3 a0 a0 a1 a2 a3 a4 a5) (rz5 a4 a1 a0 a1 a2 a3 a4 a5) (rz5 a5 a2 a0 a1 a2 a3 a4 a5))with
  |false=>exact bp rfl (bp s0_ (by rw [ss0,ss1,ss2,ss3,ss4,ss5,ss6,ss7,ss8];exact no (by rw [eo,q1];simp)))
  |true=>
   refine bn rfl ?_;cases q2:zw (jA a3 a4 a5 (unV a0 a0 a1 a2) (unV a1 a0 a1 a2) (unV a2 a0 a1 a2))with
   |true=>exact bp rfl (bp s0_ (by rw [ss0,ss1,ss2,ss3,ss4,ss5,ss6,ss7,ss8];exact no (by rw [eo,q2];simp)))
   |false=>
    refine bn rfl ?_;cases q3:(zw (pr (unV a0 a0 a1 a2) (dz5 a0 a1 a2 a3 a4 a5))||zw (pr (unV a1 a0 a1 a2) (dz5 a0 a1 a2 a3 a4 a5))||zw (pr (unV a2 a0 a1 a2) (dz5 a0 a1 a2 a3 a4 a5)))with
    |true=>exact bp rfl (bp s0_ (by rw [ss0,ss1,ss2,ss3,ss4,ss5,ss6,ss7,ss8];exact no (by rw [eo,q3];simp)))
    |false=>
     refine bn rfl ?_;cases q4:(zw (a3-zh (pr (unV a0 a0 a1 a2) (dz5 a0 a1 a2 a3 a4 a5)))||zw (a4-zh (pr (unV a1 a0 a1 a2) (dz5 a0 a1 a2 a3 a4 a5)))||zw (a5-zh (pr (unV a2 a0 a1 a2) (dz5 a0 a1 a2 a3 a4 a5))))with
     |true=>exact bp rfl (bp s0_ (by rw [ss0,ss1,ss2,ss3,ss4,ss5,ss6,ss7,ss8];exact no (by rw [eo,q4];simp)))
     |false=>
      refine bn rfl ?_;cases q5:(zw (arZ (unV a1 a0 a1 a2) (unV (rz5 a5 a2 a0 a1 a2 a3 a4 a5) (rz5 a3 a0 a0 a1 a2 a3 a4 a5) (rz5 a4 a1 a0 a1 a2 a3 a4 a5) (rz5 a5 a2 a0 a1 a2 a3 a4 a5)) (unV a2 a0 a1 a2) (unV (rz5 a4 a1 a0 a1 a2 a3 a4 a5) (rz5 a3 a0 a0 a1 a2 a3 a4 a5) (rz5 a4 a1 a0 a1 a2 a3 a4 a5) (rz5 a5 a2 a0 a1 a2 a3 a4 a5)))||zw (arZ (unV a2 a0 a1 a2) (unV (rz5 a3 a0 a0 a1 a2 a3 a4 a5) (rz5 a3 a0 a0 a1 a2 a3 a4 a5) (rz5 a4 a1 a0 a1 a2 a3 a4 a5) (rz5 a5 a2 a0 a1 a2 a3 a4 a5)) (unV a0 a0 a1 a2) (unV (rz5 a5 a2 a0 a1 a2 a3 a4 a5) (rz5 a3 a0 a0 a1 a2 a3 a4 a5) (rz5 a4 a1 a0 a1 a2 a3 a4 a5) (rz5 a5 a2 a0 a1 a2 a3 a4 a5)))||zw (arZ (unV a0 a0 a1 a2) (unV (rz5 a4 a1 a0 a1 a2 a3 a4 a5) (rz5 a3 a0 a0 a1 a2 a3 a4 a5) (rz5 a4 a1 a0 a1 a2 a3 a4 a5) (rz5 a5 a2 a0 a1 a2 a3 a4 a5)) (unV a1 a0 a1 a2) (unV (rz5 a3 a0 a0 a1 a2 a3 a4 a5) (rz5 a3 a0 a0 a1 a2 a3 a4 a5) (rz5 a4 a1 a0 a1 a2 a3 a4 a5) (rz5 a5 a2 a0 a1 a2 a3 a4 a5))))with
      |true=>exact bp rfl (bp s0_ (by rw [ss0,ss1,ss2,ss3,ss4,ss5,ss6,ss7,ss8];exact no (by rw [eo,q5];simp)))
      |false=>
       refine bn rfl ?_;exact yes (by rw [eo,q1,q2,q3,q4,q5];rfl)
theorem zKK(F:Nat)(hF:200<=F){a0 a1 a2 a3 a4 a5 a6 a7 a8:Int}(ha0:zr a0)(ha1:zr a1)(ha2:zr a2)(ha3:zr a3)(ha4:zr a4)(ha5:zr a5)(ha6:zr a6)(ha7:zr a7)(ha8:zr a8):zO.ok F a0 a1 a2 a3 a4 a5 a6 a7 a8=true/\zO.i 0 F a0 a1 a2 a3 a4 a5 a6 a7 a8=zGL a0 a1 a2 a3 a4 a5 a6 a7 a8/\zO.i 1 F a0 a1 a2 a3 a4 a5 a6 a7 a8=zGM a0 a1 a2 a3 a4 a5 a6 a7 a8/\zO.i 2 F a0 a1 a2 a3 a4 a5 a6 a7 a8=zGN a0 a1 a2 a3 a4 a5 a6 a7 a8/\zO.i 3 F a0 a1 a2 a3 a4 a5 a6 a7 a8=zGO a0 a1 a2 a3 a4 a5 a6 a7 a8/\zO.i 4 F a0 a1 a2 a3 a4 a5 a6 a7 a8=zGP a0 a1 a2 a3 a4 a5 a6 a7 a8/\zO.i 5 F a0 a1 a2 a3 a4 a5 a6 a7 a8=zGQ a0 a1 a2 a3 a4 a5 a6 a7 a8/\zO.i 6 F a0 a1 a2 a3 a4 a5 a6 a7 a8=zGR a0 a1 a2 a3 a4 a5 a6 a7 a8/\zO.i 7 F a0 a1 a2 a3 a4 a5 a6 a7 a8=zGS a0 a1 a2 a3 a4 a5 a6 a7 a8/\zO.i 8 F a0 a1 a2 a3 a4 a5 a6 a7 a8=zGT a0 a1 a2 a3 a4 a5 a6 a7 a8/\zO.b 9 F a0 a1 a2 a3 a4 a5 a6 a7 a8=zo4 a0 a1 a2 a3 a4 a5 a6 a7 a8:=zKH F _ _ _ _ _ _ _ _ _ (zGU F hF ha0 ha1 ha2 ha3 ha4 ha5 ha6 ha7 ha8)
theorem zA0(F:Nat)(hF:200<=F){a0 a1 a2 a3 a4 a5 a6 a7 a8:Int}(ha0:zr a0)(ha1:zr a1)(ha2:zr a2)(ha3:zr a3)(ha4:zr a4)(ha5:zr a5)(ha6:zr a6)(ha7:zr a7)(ha8:zr a8):zjP F a0 a1 a2 a3 a4 a5 a6 a7 a8=some (.v (.tuple #[.agg #[.i (zGL a0 a1 a2 a3 a4 a5 a6 a7 a8),.i (zGM a0 a1 a2 a3 a4 a5 a6 a7 a8),.i (zGN a0 a1 a2 a3 a4 a5 a6 a7 a8),.i (zGO a0 a1 a2 a3 a4 a5 a6 a7 a8),.i (zGP a0 a1 a2 a3 a4 a5 a6 a7 a8),.i (zGQ a0 a1 a2 a3 a4 a5 a6 a7 a8),.i (zGR a0 a1 a2 a3 a4 a5 a6 a7 a8),.i (zGS a0 a1 a2 a3 a4 a5 a6 a7 a8),.i (zGT a0 a1 a2 a3 a4 a5 a6 a7 a8)],.bool (zo4 a0 a1 a2 a3 a4 a5 a6 a7 a8)])):=by
 unfold zjP zm6;obtain⟨u0,u1,u2,u3,u4⟩:=zKm F hF ha0 ha1 ha2;obtain⟨s0_,ss0,ss1,ss2,ss3,ss4,ss5,ss6,ss7,ss8⟩:=zPe F;have no:=fun h=>zSI (a0:=a0) (a1:=a1) (a2:=a2) (a3:=a3) (a4:=a4) (a5:=a5) (a6:=a6) (a7:=a7) (a8:=a8) h
 have yes:=fun h=>zPg (a0:=a0) (a1:=a1) (a2:=a2) (a3:=a3) (a4:=a4) (a5:=a5) (a6:=a6) (a7:=a7) (a8:=a8) h
 have dx0:=ziG a0 a0 a1 a2;have dx1:=ziG a1 a0 a1 a2;have dx2:=ziG a2 a0 a1 a2;obtain⟨d0,d1,d2⟩:=zAN F hF ha3 ha4 ha5 dx0 dx1 dx2;obtain⟨c0,c1,c2,c3,c4⟩:=zEj F hF dx0 dx1 dx2 (jk (jA a3 a4 a5 (unV a0 a0 a1 a2) (unV a1 a0 a1 a2) (unV a2 a0 a1 a2)));obtain⟨b0,b1,b2,b3,b4⟩:=zO7 F hF ha3 ha4 ha5 (jk (pr (unV a0 a0 a1 a2) (dz5 a0 a1 a2 a3 a4 a5))) (jk (pr (unV a1 a0 a1 a2) (dz5 a0 a1 a2 a3 a4 a5))) (jk (pr (unV a2 a0 a1 a2) (dz5 a0 a1 a2 a3 a4 a5)));obtain⟨v0,v1,v2,v3,v4⟩:=zKm F hF (jk (a3-zh (pr (unV a0 a0 a1 a2) (dz5 a0 a1 a2 a3 a4 a5)))) (jk (a4-zh (pr (unV a1 a0 a1 a2) (dz5 a0 a1 a2 a3 a4 a5)))) (jk (a5-zh (pr (unV a2 a0 a1 a2) (dz5 a0 a1 a2 a3 a4 a5))))
 obtain⟨k0,k1,k2,k3,k4⟩:=zSu F hF dx0 dx1 dx2 (ziG (rz5 a3 a0 a0 a1 a2 a3 a4 a5) (rz5 a3 a0 a0 a1 a2 a3 a4 a5) (rz5 a4 a1 a0 a1 a2 a3 a4 a5) (rz5 a5 a2 a0 a1 a2 a3 a4 a5)) (ziG (rz5 a4 a1 a0 a1 a2 a3 a4 a5) (rz5 a3 a0 a0 a1 a2 a3 a4 a5) (rz5 a4 a1 a0 a1 a2 a3 a4 a5) (rz5 a5 a2 a0 a1 a2 a3 a4 a5)) (ziG (rz5 a5 a2 a0 a1 a2 a3 a4 a5) (rz5 a3 a0 a0 a1 a2 a3 a4 a5) (rz5 a4 a1 a0 a1 a2 a3 a4 a5) (rz5 a5 a2 a0 a1 a2 a3 a4 a5));refine bp u0 ?_;rw [u1,u2,u3,u4];cases q0:zgS a0 a1 a2 with
 |false=>exact bp rfl (bp s0_ (by rw [ss0,ss1,ss2,ss3,ss4,ss5,ss6,ss7,ss8];exact no (by unfold zo4;rw [q0];rfl)))
 |true=>
  refine bn rfl (bp d0 ?_);rw [d1,d2];refine bp c0 ?_;rw [c1,c2,c3,c4];refine bp b0 ?_;rw [b1,b2,b3,b4];refine bp v0 ?_;rw [v1,v2,v3,v4];have eo:zo4 a0 a1 a2 a3 a4 a5 a6 a7 a8=(true&&((zgS (rz5 a3 a0 a0 a1 a2 a3 a4 a5) (rz5 a4 a1 a0 a1 a2 a3 a4 a5) (rz5 a5 a2 a0 a1 a2 a3 a4 a5))&&(!zw (jA a3 a4 a5 (unV a0 a0 a1 a2) (unV a1 a0 a1 a2) (unV a2 a0 a1 a2))&&(!(zw (pr (unV a0 a0 a1 a2) (dz5 a0 a1 a2 a3 a4 a5))||zw (pr (unV a1 a0 a1 a2) (dz5 a0 a1 a2 a3 a4 a5))||zw (pr (unV a2 a0 a1 a2) (dz5 a0 a1 a2 a3 a4 a5)))&&(!(zw (a3-zh (pr (unV a0 a0 a1 a2) (dz5 a0 a1 a2 a3 a4 a5)))||zw (a4-zh (pr (unV a1 a0 a1 a2) (dz5 a0 a1 a2 a3 a4 a5)))||zw (a5-zh (pr (unV a2 a0 a1 a2) (dz5 a0 a1 a2 a3 a4 a5))))&& !(zw (arZ (unV a1 a0 a1 a2) (unV (rz5 a5 a2 a0 a1 a2 a3 a4 a5) (rz5 a3 a0 a0 a1 a2 a3 a4 a5) (rz5 a4 a1 a0 a1 a2 a3 a4 a5) (rz5 a5 a2 a0 a1 a2 a3 a4 a5)) (unV a2 a0 a1 a2) (unV (rz5 a4 a1 a0 a1 a2 a3 a4 a5) (rz5 a3 a0 a0 a1 a2 a3 a4 a5) (rz5 a4 a1 a0 a1 a2 a3 a4 a5) (rz5 a5 a2 a0 a1 a2 a3 a4 a5)))||zw (arZ (unV a2 a0 a1 a2) (unV (rz5 a3 a0 a0 a1 a2 a3 a4 a5) (rz5 a3 a0 a0 a1 a2 a3 a4 a5) (rz5 a4 a1 a0 a1 a2 a3 a4 a5) (rz5 a5 a2 a0 a1 a2 a3 a4 a5)) (unV a0 a0 a1 a2) (unV (rz5 a5 a2 a0 a1 a2 a3 a4 a5) (rz5 a3 a0 a0 a1 a2 a3 a4 a5) (rz5 a4 a1 a0 a1 a2 a3 a4 a5) (rz5 a5 a2 a0 a1 a2 a3 a4 a5)))||zw (arZ (unV a0 a0 a1 a2) (unV (rz5 a4 a1 a0 a1 a2 a3 a4 a5) (rz5 a3 a0 a0 a1 a2 a3 a4 a5) (rz5 a4 a1 a0 a1 a2 a3 a4 a5) (rz5 a5 a2 a0 a1 a2 a3 a4 a5)) (unV a1 a0 a1 a2) (unV (rz5 a3 a0 a0 a1 a2 a3 a4 a5) (rz5 a3 a0 a0 a1 a2 a3 a4 a5) (rz5 a4 a1 a0 a1 a2 a3 a4 a5) (rz5 a5 a2 a0 a1 a2 a3 a4 a5))))))))):=by rw [<-q0];rfl
  cases q2:zw (jA a3 a4 a5 (unV a0 a0 a1 a2) (unV a1 a0 a1 a2) (unV a2 a0 a1 a2))with
  |true=>exact bp rfl (bp s0_ (by rw [ss0,ss1,ss2,ss3,ss4,ss5,ss6,ss7,ss8];exact no (by rw [eo,q2];simp)))
  |false=>
   refine bn rfl ?_;cases q3:(zw (pr (unV a0 a0 a1 a2) (dz5 a0 a1 a2 a3 a4 a5))||zw (pr (unV a1 a0 a1 a2) (dz5 a0 a1 a2 a3 a4 a5))||zw (pr (unV a2 a0 a1 a2) (dz5 a0 a1 a2 a3 a4 a5)))with
   |true=>exact bp rfl (bp s0_ (by rw [ss0,ss1,ss2,ss3,ss4,ss5,ss6,ss7,ss8];exact no (by rw [eo,q3];simp)))
   |false=>
    refine bn rfl ?_;cases q4:(zw (a3-zh (pr (unV a0 a0 a1 a2) (dz5 a0 a1 a2 a3 a4 a5)))||zw (a4-zh (pr (unV a1 a0 a1 a2) (dz5 a0 a1 a2 a3 a4 a5)))||zw (a5-zh (pr (unV a2 a0 a1 a2) (dz5 a0 a1 a2 a3 a4 a5))))with
    |true=>exact bp rfl (bp s0_ (by rw [ss0,ss1,ss2,ss3,ss4,ss5,ss6,ss7,ss8];exact no (by rw [eo,q4];simp)))
    |false=>
     refine bn rfl ?_;cases q1:(zgS (rz5 a3 a0 a0 a1 a2 a3 a4 a5) (rz5 a4 a1 a0 a1 a2 a3 a4 a5) (rz5 a5 a2 a0 a1 a2 a3 a4 a5))with
     |false=>exact bp rfl (bp s0_ (by rw [ss0,ss1,ss2,ss3,ss4,ss5,ss6,ss7,ss8];exact no (by rw [eo,q1];simp)))
     |true=>
      refine bn rfl ?_;refine bp k0 ?_;rw [k1,k2,k3,k4];cases q5:(zw (arZ (unV a1 a0 a1 a2) (unV (rz5 a5 a2 a0 a1 a2 a3 a4 a5) (rz5 a3 a0 a0 a1 a2 a3 a4 a5) (rz5 a4 a1 a0 a1 a2 a3 a4 a5) (rz5 a5 a2 a0 a1 a2 a3 a4 a5)) (unV a2 a0 a1 a2) (unV (rz5 a4 a1 a0 a1 a2 a3 a4 a5) (rz5 a3 a0 a0 a1 a2 a3 a4 a5) (rz5 a4 a1 a0 a1 a2 a3 a4 a5) (rz5 a5 a2 a0 a1 a2 a3 a4 a5)))||zw (arZ (unV a2 a0 a1 a2) (unV (rz5 a3 a0 a0 a1 a2 a3 a4 a5) (rz5 a3 a0 a0 a1 a2 a3 a4 a5) (rz5 a4 a1 a0 a1 a2 a3 a4 a5) (rz5 a5 a2 a0 a1 a2 a3 a4 a5)) (unV a0 a0 a1 a2) (unV (rz5 a5 a2 a0 a1 a2 a3 a4 a5) (rz5 a3 a0 a0 a1 a2 a3 a4 a5) (rz5 a4 a1 a0 a1 a2 a3 a4 a5) (rz5 a5 a2 a0 a1 a2 a3 a4 a5)))||zw (arZ (unV a0 a0 a1 a2) (unV (rz5 a4 a1 a0 a1 a2 a3 a4 a5) (rz5 a3 a0 a0 a1 a2 a3 a4 a5) (rz5 a4 a1 a0 a1 a2 a3 a4 a5) (rz5 a5 a2 a0 a1 a2 a3 a4 a5)) (unV a1 a0 a1 a2) (unV (rz5 a3 a0 a0 a1 a2 a3 a4 a5) (rz5 a3 a0 a0 a1 a2 a3 a4 a5) (rz5 a4 a1 a0 a1 a2 a3 a4 a5) (rz5 a5 a2 a0 a1 a2 a3 a4 a5))))with
      |true=>exact bp rfl (bp s0_ (by rw [ss0,ss1,ss2,ss3,ss4,ss5,ss6,ss7,ss8];exact no (by rw [eo,q5];simp)))
      |false=>
       refine bn rfl ?_;exact yes (by rw [eo,q1,q2,q3,q4,q5];rfl)
theorem zC3(F:Nat)(hF:200<=F){a0 a1 a2 a3 a4 a5 a6 a7 a8:Int}(ha0:zr a0)(ha1:zr a1)(ha2:zr a2)(ha3:zr a3)(ha4:zr a4)(ha5:zr a5)(ha6:zr a6)(ha7:zr a7)(ha8:zr a8):zD.ok F a0 a1 a2 a3 a4 a5 a6 a7 a8=true/\zD.i 0 F a0 a1 a2 a3 a4 a5 a6 a7 a8=zGL a0 a1 a2 a3 a4 a5 a6 a7 a8/\zD.i 1 F a0 a1 a2 a3 a4 a5 a6 a7 a8=zGM a0 a1 a2 a3 a4 a5 a6 a7 a8/\zD.i 2 F a0 a1 a2 a3 a4 a5 a6 a7 a8=zGN a0 a1 a2 a3 a4 a5 a6 a7 a8/\zD.i 3 F a0 a1 a2 a3 a4 a5 a6 a7 a8=zGO a0 a1 a2 a3 a4 a5 a6 a7 a8/\zD.i 4 F a0 a1 a2 a3 a4 a5 a6 a7 a8=zGP a0 a1 a2 a3 a4 a5 a6 a7 a8/\zD.i 5 F a0 a1 a2 a3 a4 a5 a6 a7 a8=zGQ a0 a1 a2 a3 a4 a5 a6 a7 a8/\zD.i 6 F a0 a1 a2 a3 a4 a5 a6 a7 a8=zGR a0 a1 a2 a3 a4 a5 a6 a7 a8/\zD.i 7 F a0 a1 a2 a3 a4 a5 a6 a7 a8=zGS a0 a1 a2 a3 a4 a5 a6 a7 a8/\zD.i 8 F a0 a1 a2 a3 a4 a5 a6 a7 a8=zGT a0 a1 a2 a3 a4 a5 a6 a7 a8/\zD.b 9 F a0 a1 a2 a3 a4 a5 a6 a7 a8=zo4 a0 a1 a2 a3 a4 a5 a6 a7 a8:=zC1 F _ _ _ _ _ _ _ _ _ (zA0 F hF ha0 ha1 ha2 ha3 ha4 ha5 ha6 ha7 ha8)
structure Mt where
 a0:Int
 a1:Int
 a2:Int
 a3:Int
 a4:Int
 a5:Int
 a6:Int
 a7:Int
 a8:Int
def zKL:Mt:=⟨4294967296,0,0,0,4294967296,0,0,0,4294967296⟩
def zpT(A B:Mt):Mt:=⟨zh (jA A.a0 A.a1 A.a2 B.a0 B.a3 B.a6),zh (jA A.a0 A.a1 A.a2 B.a1 B.a4 B.a7),zh (jA A.a0 A.a1 A.a2 B.a2 B.a5 B.a8),zh (jA A.a3 A.a4 A.a5 B.a0 B.a3 B.a6),zh (jA A.a3 A.a4 A.a5 B.a1 B.a4 B.a7),zh (jA A.a3 A.a4 A.a5 B.a2 B.a5 B.a8),zh (jA A.a6 A.a7 A.a8 B.a0 B.a3 B.a6),zh (jA A.a6 A.a7 A.a8 B.a1 B.a4 B.a7),zh (jA A.a6 A.a7 A.a8 B.a2 B.a5 B.a8)⟩
def zWA(A B:Mt):Bool:=((zw (jA A.a0 A.a1 A.a2 B.a0 B.a3 B.a6)||zw (jA A.a0 A.a1 A.a2 B.a1 B.a4 B.a7)||zw (jA A.a0 A.a1 A.a2 B.a2 B.a5 B.a8))||(zw (jA A.a3 A.a4 A.a5 B.a0 B.a3 B.a6)||zw (jA A.a3 A.a4 A.a5 B.a1 B.a4 B.a7)||zw (jA A.a3 A.a4 A.a5 B.a2 B.a5 B.a8))||(zw (jA A.a6 A.a7 A.a8 B.a0 B.a3 B.a6)||zw (jA A.a6 A.a7 A.a8 B.a1 B.a4 B.a7)||zw (jA A.a6 A.a7 A.a8 B.a2 B.a5 B.a8)))
def abM(k:Nat)(x:Int):Mt:=match k with
 |0=>⟨4294967296,0,0,0,(zdZ x),(-zc7 x),0,(zc7 x),(zdZ x)⟩
 |1=>⟨(zdZ x),0,(zc7 x),0,4294967296,0,(-zc7 x),0,(zdZ x)⟩
 |_=>⟨(zdZ x),(-zc7 x),0,(zc7 x),(zdZ x),0,0,0,4294967296⟩
noncomputable def upM(A:Mt):Mt:=⟨zGL A.a0 A.a1 A.a2 A.a3 A.a4 A.a5 A.a6 A.a7 A.a8,zGM A.a0 A.a1 A.a2 A.a3 A.a4 A.a5 A.a6 A.a7 A.a8,zGN A.a0 A.a1 A.a2 A.a3 A.a4 A.a5 A.a6 A.a7 A.a8,zGO A.a0 A.a1 A.a2 A.a3 A.a4 A.a5 A.a6 A.a7 A.a8,zGP A.a0 A.a1 A.a2 A.a3 A.a4 A.a5 A.a6 A.a7 A.a8,zGQ A.a0 A.a1 A.a2 A.a3 A.a4 A.a5 A.a6 A.a7 A.a8,zGR A.a0 A.a1 A.a2 A.a3 A.a4 A.a5 A.a6 A.a7 A.a8,zGS A.a0 A.a1 A.a2 A.a3 A.a4 A.a5 A.a6 A.a7 A.a8,zGT A.a0 A.a1 A.a2 A.a3 A.a4 A.a5 A.a6 A.a7 A.a8⟩
def goM(M:Mt)(k:Nat)(b:Int):Mt:=if b=0 then M else zpT M (abM k b)
def goK(M:Mt)(k:Nat)(b:Int):Bool:=if b=0 then false else zWA M (abM k b)
structure Att where
 m:Mt
 n:Int
def go3(M:Mt)(b0 b1 b2:Int):Mt:=goM (goM (goM M 0 b0) 1 b1) 2 b2
def zri(M:Mt)(b0 b1 b2:Int):Bool:=goK M 0 b0||goK (goM M 0 b0) 1 b1||goK (goM (goM M 0 b0) 1 b1) 2 b2
noncomputable def zaF(a:Att)(b0 b1 b2:Int):Att:=if 15<=a.n then⟨upM (go3 a.m b0 b1 b2),0⟩else⟨go3 a.m b0 b1 b2,a.n+1⟩
def zcH:Att:=⟨zKL,0⟩
def zKM:Cfg:=⟨[0,1,4,5,7],[],[9,12],[]⟩
def zkD:Sg:=⟨[.i,.i],.v (.tup [.i,.bool])⟩
def zKN(zaE:Qi)(zN:Qi3)(yw:jQ)(F:Nat):=zS [(102,zz zpL ki zaE F),(129,zz ze2 ki3 zN F),(103,zz zgN ki2 yw F)]
def zrj(zaE:Qi)(zN:Qi3)(yw:jQ)(F:Nat):FT ki2:=fun c a=>bif(decide (a>=0))then bif(zaE.ok F c)then let d:Int:=zaE.i 0 F c;let e:Int:=zaE.i 1 F c;let g:Int:=if 64<a then 64 else a;bif(zN.ok F d e g)then let h:Int:=zN.i 0 F d e g;let l:Int:=zN.i 1 F d e g;bif(yw.ok F h l)then some (.v (.tuple #[.i (yw.i 0 F h l),.bool (yw.b 1 F h l)]))else none else none else none else let m:Int:=wrap .i64 (0-(if(-64)>a then-64 else a));let o:Int:=if m<63 then m else 63;bif(!(decide (o<0)))then some (.v (.tuple #[.i (Int.fdiv c (2^(min (Int.toNat o) 64))),.bool false]))else none
def zsX:=zrj zaE zN yw
def yS:jQ:=mkQ (l:=ki2) zkD.o zsX
theorem zKO(zaE:Qi)(zN:Qi3)(yw:jQ)(F:Nat):HHz zkD ki2 (zKN zaE zN yw F) zKM [] 98 (zrj zaE zN yw F):=hzz
theorem zKP(F:Nat)(a c:Int):KO4 (zsX F a c) (yS.ok F a c) (yS.i 0 F a c) (yS.b 1 F a c):=ko4 _
theorem zyo(F:Nat):yc PP 98 (unS (zz zkD ki2 yS F)):=
 gzz F (zKO zaE zN yw F) (zd (zAz F) (zd (znA F) (zd (zqr F) zn)))
def zGW:Cfg:=⟨[0,1,2,30],[],[],[]⟩
def zh7:Sg:=⟨[.v (.agg [.i,.i,.i,.i])],.i⟩
def zGX(F:Nat):=zS []
def zlZ(F:Nat):FT ki4:=fun a c d b=>bif(decide (a<0))then some (.v (.i 2))else bif(decide (a>16))then some (.v (.i 2))else bif(decide (c<0))then some (.v (.i 2))else bif(decide (d<0))then some (.v (.i 2))else bif(decide (b<1))then some (.v (.i 2))else bif(decide (b>65535))then some (.v (.i 2))else some (.v (.i 0))
def jN:Qi4:=mkQ (l:=ki4) zh7.o zlZ
theorem zGY(F:Nat):HHz zh7 ki4 (zGX F) zGW [] 57 (zlZ F):=hzz
theorem zGZ(F:Nat)(a b c d:Int):KO0 (zlZ F a b c d) (jN.ok F a b c d) (jN.i 0 F a b c d):=ko0 _
theorem zv9(F:Nat):yc PP 57 (unS (zz zh7 ki4 jN F)):=
 gzz F (zGY F) (zn)
def zKQ:Cfg:=⟨[0,2],[],[],[]⟩
def zkE:Sg:=⟨[.i],.v (.bool)⟩
def zKR(F:Nat):=zS []
def zoc(F:Nat):FT ki:=fun a=>bif(decide (a>=0))then some (.v (.bool (decide (a<=1099511627776))))else some (.v (.bool false))
def zai:Qi:=mkQ (l:=ki) zkE.o zoc
theorem zKS(F:Nat):HHz zkE ki (zKR F) zKQ [] 139 (zoc F):=hzz
theorem zKT(F:Nat)(a:Int):KO1 (zoc F a) (zai.ok F a) (zai.b 0 F a):=ko1 _
theorem zyp(F:Nat):yc PP 139 (unS (zz zkE ki zai F)):=
 gzz F (zKS F) (zn)
def zG0:Cfg:=⟨[0,1,2,3,4,6,15,24],[],[],[]⟩
def zl0:Sg:=⟨[.v (.agg [.i,.i,.i,.i]),.v (.agg [.i,.i,.i,.i])],.i⟩
def zG1(jN:Qi4)(zai:Qi)(zaU:Qi4)(F:Nat):=zS [(57,zz zh7 ki4 jN F),(139,zz zkE ki zai F),(164,zz znZ ki4 zaU F)]
def zo5(jN:Qi4)(zai:Qi)(zaU:Qi4)(F:Nat):FT ki8:=fun c d a e g h l m=>bif(jN.ok F c d a e)then bif((jN.i 0 F c d a e) !=0)then some (.v (.i 2))else bif(zai.ok F m)then bif(!(zai.b 0 F m))then some (.v (.i 2))else bif(zaU.ok F g h l a)then bif(zaU.b 3 F g h l a)then some (.v (.i 2))else some (.v (.i 0))else none else none else none
def zrk:=zo5 jN zai zaU
def zbv:Qi8:=mkQ (l:=ki8) zl0.o zrk
theorem zG2(jN:Qi4)(zai:Qi)(zaU:Qi4)(F:Nat):HHz zl0 ki8 (zG1 jN zai zaU F) zG0 [] 138 (zo5 jN zai zaU F):=hzz
theorem zG3(F:Nat)(a b c d e g h l:Int):KO0 (zrk F a b c d e g h l) (zbv.ok F a b c d e g h l) (zbv.i 0 F a b c d e g h l):=ko0 _
theorem zG4(F:Nat):yc PP 138 (unS (zz zl0 ki8 zbv F)):=
 gzz F (zG2 jN zai zaU F) (zd (zv9 F) (zd (zyp F) (zd (zJ8 F) zn)))
def zwa:Cfg:=⟨[0,1,3,6,8],[],[],[]⟩
def zeU:Sg:=⟨[.v (.agg [.i,.i,.i,.i]),.i,.i],.i⟩
def zwb(F:Nat):=zS []
def zeV(F:Nat):FT ki6:=fun e b g h a l=>bif(decide (a>0))then let c:Int:=wrap .i64 (a-b);some (.v (.i (if 0>c then 0 else c)))else let d:Int:=wrap .i64 (a+b);some (.v (.i (if 0<d then 0 else d)))
def yo:Qi6:=mkQ (l:=ki6) zeU.o zeV
theorem zwc(F:Nat):HHz zeU ki6 (zwb F) zwa [] 95 (zeV F):=hzz
theorem zwd(F:Nat)(a b c d e g:Int):KO0 (zeV F a b c d e g) (yo.ok F a b c d e g) (yo.i 0 F a b c d e g):=ko0 _
theorem zwe(F:Nat):yc PP 95 (unS (zz zeU ki6 yo F)):=
 gzz F (zwc F) (zn)
def zu6:Cfg:=⟨[0,1,2,3,6,7],[],[],[]⟩
def zeA:Sg:=⟨[.v (.agg [.i,.i,.i,.i]),.i,.i],.i⟩
def zu7(yS:jQ)(yd:Qi3)(jv:jQ)(F:Nat):=zS [(98,zz zkD ki2 yS F),(140,zz zg0 ki3 yd F),(52,zz zmm ki2 jv F)]
def zfP(yS:jQ)(yd:Qi3)(jv:jQ)(F:Nat):FT ki6:=fun p a b s c d=>let e:Int:=wrap .i64 (0-p);bif(yS.ok F d e)then let g:Int:=yS.i 0 F d e;let h:Int:=wrap .i64 (0-a);bif(yd.ok F g h a)then let l:Int:=yd.i 0 F g h a;bif(jv.ok F c l)then let m:Int:=jv.i 0 F c l;let o:Int:=wrap .i64 (0-b);bif(yd.ok F m o b)then some (.v (.i (yd.i 0 F m o b)))else none else none else none else none
def zgT:=zfP yS yd jv
def zL:Qi6:=mkQ (l:=ki6) zeA.o zgT
theorem zu8(yS:jQ)(yd:Qi3)(jv:jQ)(F:Nat):HHz zeA ki6 (zu7 yS yd jv F) zu6 [] 94 (zfP yS yd jv F):=hzz
theorem zu9(F:Nat)(a b c d e g:Int):KO0 (zgT F a b c d e g) (zL.ok F a b c d e g) (zL.i 0 F a b c d e g):=ko0 _
theorem zva(F:Nat):yc PP 94 (unS (zz zeA ki6 zL F)):=
 gzz F (zu8 yS yd jv F) (zd (zyo F) (zd (zst F) (zd (zwV F) zn)))
def zsY:Cfg:=⟨[0,1,2,3,5,6,8,9,10,11,12,13,14,22],[(0,[0,1,2,3,5,6,8,9,12,13,32])],[],[]⟩
def zod:Sg:=⟨[.fn 1000094 [.v (.agg [.i,.i,.i,.i])],.v (.agg [.i,.i,.i]),.v (.agg [.i,.i,.i]),.i],.v (.agg [.i,.i,.i])⟩
def zsZ(zL:Qi6)(F:Nat):=zS [(94,zz zeA ki6 zL F)]
def zjQ:TS:=⟨[(0,.fn 1000094 [.v (.agg [.i,.i,.i,.i])]),(1,.v (.agg [.i,.i,.i])),(2,.v (.agg [.i,.i,.i])),(3,.i),(5,.lp 0 (.lit 0)),(6,.lp 1 (.lit 0)),(8,.lp 2 (.lit 0)),(9,.lp 3 (.lit 0)),(12,.v (.agg [.i,.i,.i])),(13,.i)],[(0,⟨(.ex [.i,.i,.i]),true⟩),(1,⟨(.ex [.i,.i,.i]),true⟩),(2,⟨(.ex [.i,.i,.i]),true⟩),(3,⟨.hole,true⟩)],4⟩
def zzc:TS:=zjQ
def zam(zL:Qi6)(F:Nat)(J r:FT zel):FT zel:=fun x y z f j A B C D E l b c d a o p s e g h t u w m=>bif(decide (a<3))then bif(((decide (0<=a))&&(decide (a<3)))&&((isI .i64 [.v (.i b),.v (.i c),.v (.i d)][((Int.toNat a)*1)]?)&&true))then let G:Int:=iv [.v (.i b),.v (.i c),.v (.i d)][((Int.toNat a)*1)]?;bif((decide (0<=a))&&(decide (a<3)))then let H:Nat:=0+((Int.toNat a)*1);bif(decide ((H+1)<=m.length))then let n:List VV:=m.take H++[.v (.i G)]++m.drop (H+1);bif(decide (a<l))then bif((decide (0<=a))&&(decide (a<3)))then let K:Nat:=0+((Int.toNat a)*1);bif((isI .i64 [.v (.i e),.v (.i g),.v (.i h)][K]?)&&true)then let L:Int:=iv [.v (.i e),.v (.i g),.v (.i h)][K]?;bif(zL.ok F x y z f G L)then bif((decide (0<=a))&&(decide (a<3)))then let I:Nat:=0+((Int.toNat a)*1);bif(decide ((I+1)<=n.length))then J x y z f j A B C D E l b c d (wrap .i64 (a+1)) o p s e g h t u w (n.take I++[.v (.i (zL.i 0 F x y z f G L))]++n.drop (I+1))else none else none else none else none else none else J x y z f j A B C D E l b c d (wrap .i64 (a+1)) o p s e g h t u w n else none else none else none else r x y z f j A B C D E l b c d a o p s e g h t u w m
def zaA:=zam zL
def yI(F:Nat)(a:FT zel):Nat->FT zel:=lY fun b=>zaA F b a
theorem za9{F n}{a}:yI F a (n+1)=zaA F (yI F a n) a:=rfl
def zk7(k:Exit->VS->R):FT zel:=cQ _ fun q=>k (.exit 0) (fS zzc q)
def zkF(yI:Nat->FT zel->Nat->FT zel)(F:Nat):List LW:=[⟨0,zjQ,fun k q=>uQ _ (yI F (zk7 k) F) q⟩]
theorem zA1(F:Nat)(k:Exit->VS->R):∀n q,iQ PP (zsZ zL F) zsY (zkF yI F) [] 93 0 0 k n zjQ q=uQ _ (yI F (zk7 k) n) q:=
 lG (fun _=>by kernel_rfl) ((hzz:∀(zL:Qi6) (yI:Nat->FT zel->Nat->FT zel),LH PP (zsZ zL F) zsY (zkF yI F) [] 93 0 0 k zjQ (fun a=>zam zL F a (zk7 k))) zL yI)
def zfF(yI:Nat->FT zel->Nat->FT zel)(F:Nat):FT zpA:=fun m o p s b c d g h l e=>yI F (fun L M N O t u w x y z f n r j A B C D E G H I J K a=>bif((isI .i64 a[0]?)&&((isI .i64 a[1]?)&&((isI .i64 a[2]?)&&true)))then some (.v (.agg #[.i (iv a[0]?),.i (iv a[1]?),.i (iv a[2]?)]))else none) F m o p s b c d g h l e b c d 0 b c d g h l 0 0 0 ([.v (.i 0),.v (.i 0),.v (.i 0)])
def zcW:=zfF yI
def zaX:zBK:=mkQ (l:=zpA) zod.o zcW
theorem zKU(zL:Qi6)(yI:Nat->FT zel->Nat->FT zel)(F:Nat):HHz zod zpA (zsZ zL F) zsY (zkF yI F) 93 (zfF yI F):=hzz
theorem zoe(F:Nat)(b c d e g h l m o p a:Int):zRQ (zcW F b c d e g h l m o p a) (zaX.ok F b c d e g h l m o p a) (zaX.i 0 F b c d e g h l m o p a) (zaX.i 1 F b c d e g h l m o p a) (zaX.i 2 F b c d e g h l m o p a):=zUj _
theorem zKV(F:Nat):yc PP 93 (unS (zz zod zpA zaX F)):=
 gzl (W:=zkF yI) F (zKU zL yI F) (zd (zva F) zn) (jP [(0,zaK PP 93 0)] kfz (zd (jZ (zkF yI F) rfl (yn (fun _ k q=>Le.ofEq (zA1 F k F q).symm) jY)) zn))
def zo6:Cfg:=⟨[0,1,2,3,5,6,8,9,10,11,12,13,14,22],[(0,[0,1,2,3,5,6,8,9,12,13,32])],[],[]⟩
def zjR:Sg:=⟨[.fn 1000095 [.v (.agg [.i,.i,.i,.i])],.v (.agg [.i,.i,.i]),.v (.agg [.i,.i,.i]),.i],.v (.agg [.i,.i,.i])⟩
def zo7(yo:Qi6)(F:Nat):=zS [(95,zz zeU ki6 yo F)]
def zgx:TS:=⟨[(0,.fn 1000095 [.v (.agg [.i,.i,.i,.i])]),(1,.v (.agg [.i,.i,.i])),(2,.v (.agg [.i,.i,.i])),(3,.i),(5,.lp 0 (.lit 0)),(6,.lp 1 (.lit 0)),(8,.lp 2 (.lit 0)),(9,.lp 3 (.lit 0)),(12,.v (.agg [.i,.i,.i])),(13,.i)],[(0,⟨(.ex [.i,.i,.i]),true⟩),(1,⟨(.ex [.i,.i,.i]),true⟩),(2,⟨(.ex [.i,.i,.i]),true⟩),(3,⟨.hole,true⟩)],4⟩
def zwf:TS:=zgx
def zc6(yo:Qi6)(F:Nat)(J r:FT zel):FT zel:=fun x y z f j A B C D E l b c d a o p s e g h t u w m=>bif(decide (a<3))then bif(((decide (0<=a))&&(decide (a<3)))&&((isI .i64 [.v (.i b),.v (.i c),.v (.i d)][((Int.toNat a)*1)]?)&&true))then let G:Int:=iv [.v (.i b),.v (.i c),.v (.i d)][((Int.toNat a)*1)]?;bif((decide (0<=a))&&(decide (a<3)))then let H:Nat:=0+((Int.toNat a)*1);bif(decide ((H+1)<=m.length))then let n:List VV:=m.take H++[.v (.i G)]++m.drop (H+1);bif(decide (a<l))then bif((decide (0<=a))&&(decide (a<3)))then let K:Nat:=0+((Int.toNat a)*1);bif((isI .i64 [.v (.i e),.v (.i g),.v (.i h)][K]?)&&true)then let L:Int:=iv [.v (.i e),.v (.i g),.v (.i h)][K]?;bif(yo.ok F x y z f G L)then bif((decide (0<=a))&&(decide (a<3)))then let I:Nat:=0+((Int.toNat a)*1);bif(decide ((I+1)<=n.length))then J x y z f j A B C D E l b c d (wrap .i64 (a+1)) o p s e g h t u w (n.take I++[.v (.i (yo.i 0 F x y z f G L))]++n.drop (I+1))else none else none else none else none else none else J x y z f j A B C D E l b c d (wrap .i64 (a+1)) o p s e g h t u w n else none else none else none else r x y z f j A B C D E l b c d a o p s e g h t u w m
def zdw:=zc6 yo
def jg(F:Nat)(a:FT zel):Nat->FT zel:=lY fun b=>zdw F b a
theorem zgy{F n}{a}:jg F a (n+1)=zdw F (jg F a n) a:=rfl
def zh8(k:Exit->VS->R):FT zel:=cQ _ fun q=>k (.exit 0) (fS zwf q)
def zf7(jg:Nat->FT zel->Nat->FT zel)(F:Nat):List LW:=[⟨0,zgx,fun k q=>uQ _ (jg F (zh8 k) F) q⟩]
theorem zxq(F:Nat)(k:Exit->VS->R):∀n q,iQ PP (zo7 yo F) zo6 (zf7 jg F) [] 93 0 0 k n zgx q=uQ _ (jg F (zh8 k) n) q:=
 lG (fun _=>by kernel_rfl) ((hzz:∀(yo:Qi6) (jg:Nat->FT zel->Nat->FT zel),LH PP (zo7 yo F) zo6 (zf7 jg F) [] 93 0 0 k zgx (fun a=>zc6 yo F a (zh8 k))) yo jg)
def zm7(jg:Nat->FT zel->Nat->FT zel)(F:Nat):FT zpA:=fun m o p s b c d g h l e=>jg F (fun L M N O t u w x y z f n r j A B C D E G H I J K a=>bif((isI .i64 a[0]?)&&((isI .i64 a[1]?)&&((isI .i64 a[2]?)&&true)))then some (.v (.agg #[.i (iv a[0]?),.i (iv a[1]?),.i (iv a[2]?)]))else none) F m o p s b c d g h l e b c d 0 b c d g h l 0 0 0 ([.v (.i 0),.v (.i 0),.v (.i 0)])
def zjS:=zm7 jg
def j5:zBK:=mkQ (l:=zpA) zjR.o zjS
theorem zC4(yo:Qi6)(jg:Nat->FT zel->Nat->FT zel)(F:Nat):HHz zjR zpA (zo7 yo F) zo6 (zf7 jg F) 93 (zm7 jg F):=hzz
theorem zC5(F:Nat)(b c d e g h l m o p a:Int):zRQ (zjS F b c d e g h l m o p a) (j5.ok F b c d e g h l m o p a) (j5.i 0 F b c d e g h l m o p a) (j5.i 1 F b c d e g h l m o p a) (j5.i 2 F b c d e g h l m o p a):=zUj _
theorem zC6(F:Nat):yc PP 93 (unS (zz zjR zpA j5 F)):=
 gzl (W:=zf7 jg) F (zC4 yo jg F) (zd (zwe F) zn) (jP [(0,zaK PP 93 0)] kfz (zd (jZ (zf7 jg F) rfl (yn (fun _ k q=>Le.ofEq (zxq F k F q).symm) jY)) zn))
def zNE:Cfg:=⟨[0,1,2,3,4,6],[],[],[]⟩
def zm8:Sg:=⟨[.v (.agg [.i,.i,.i,.i]),.v (.agg [.i,.i,.i,.i]),.i],.v (.bool)⟩
def zNF(zbv:Qi8)(zai:Qi)(F:Nat):=zS [(138,zz zl0 ki8 zbv F),(139,zz zkE ki zai F)]
def zs0(zbv:Qi8)(zai:Qi)(F:Nat):FT ki9:=fun d e g h l m o a c=>bif(zbv.ok F d e g h l m o a)then bif((zbv.i 0 F d e g h l m o a)==0)then bif(decide (c>=a))then bif(zai.ok F c)then some (.v (.bool (zai.b 0 F c)))else none else some (.v (.bool false))else some (.v (.bool false))else none
def zvb:=zs0 zbv zai
def zaC:Qi9:=mkQ (l:=ki9) zm8.o zvb
theorem zNG(zbv:Qi8)(zai:Qi)(F:Nat):HHz zm8 ki9 (zNF zbv zai F) zNE [] 92 (zs0 zbv zai F):=hzz
theorem zNH(F:Nat)(a c d e g h l m o:Int):KO1 (zvb F a c d e g h l m o) (zaC.ok F a c d e g h l m o) (zaC.b 0 F a c d e g h l m o):=ko1 _
theorem zA2(F:Nat):yc PP 92 (unS (zz zm8 ki9 zaC F)):=
 gzz F (zNG zbv zai F) (zd (zG4 F) (zd (zyp F) zn))
def zC7:Cfg:=⟨[0,1,4,5,7],[],[9,12,17,22],[]⟩
def zeK:Sg:=⟨[.i,.i],.v (.tup [.i,.bool])⟩
def zC8(zo:Qi)(yW:Qi3)(zu:jQ)(yN:Qi3)(F:Nat):=zS [(81,zz zc8 ki zo F),(120,zz zhl ki3 yW F),(105,zz zdG ki2 zu F),(121,zz zfT ki3 yN F)]
def zm9(zo:Qi)(yW:Qi3)(zu:jQ)(yN:Qi3)(F:Nat):FT ki2:=fun c d=>bif(decide (d>=0))then bif(zo.ok F c)then let e:Int:=zo.i 0 F c;let g:Int:=zo.i 1 F c;let h:Int:=if 64<d then 64 else d;bif(yW.ok F e g h)then let l:Int:=yW.i 0 F e g h;let m:Int:=yW.i 1 F e g h;bif(zu.ok F l m)then some (.v (.tuple #[.i (zu.i 0 F l m),.bool (zu.b 1 F l m)]))else none else none else none else bif(zo.ok F c)then let o:Int:=zo.i 0 F c;let p:Int:=zo.i 1 F c;let u:Int:=wrap .i64 (0-(if(-127)>d then-127 else d));let s:Int:=if u<127 then u else 127;bif(yN.ok F o p s)then let t:Int:=yN.i 0 F o p s;let a:Int:=yN.i 1 F o p s;bif(zu.ok F t a)then some (.v (.tuple #[.i (zu.i 0 F t a),.bool (zu.b 1 F t a)]))else none else none else none
def zo8:=zm9 zo yW zu yN
def zT:jQ:=mkQ (l:=ki2) zeK.o zo8
theorem zC9(zo:Qi)(yW:Qi3)(zu:jQ)(yN:Qi3)(F:Nat):HHz zeK ki2 (zC8 zo yW zu yN F) zC7 [] 79 (zm9 zo yW zu yN F):=hzz
theorem zDa(F:Nat)(a c:Int):KO4 (zo8 F a c) (zT.ok F a c) (zT.i 0 F a c) (zT.b 1 F a c):=ko4 _
theorem zo9(F:Nat):yc PP 79 (unS (zz zeK ki2 zT F)):=
 gzz F (zC9 zo yW zu yN F) (zd (ze1 F) (zd (zvH F) (zd (zhu F) (zd (zt4 F) zn))))
def zDb:Cfg:=⟨[0,1,2,30],[],[],[]⟩
def zf8:Sg:=⟨[.v (.agg [.i,.i,.i,.i])],.i⟩
def zDc(F:Nat):=zS []
def zjT(F:Nat):FT ki4:=fun a c d b=>bif(decide (a<0))then some (.v (.i 2))else bif(decide (a>16))then some (.v (.i 2))else bif(decide (c<0))then some (.v (.i 2))else bif(decide (d<0))then some (.v (.i 2))else bif(decide (b<1))then some (.v (.i 2))else bif(decide (b>65535))then some (.v (.i 2))else some (.v (.i 0))
def ym:Qi4:=mkQ (l:=ki4) zf8.o zjT
theorem zDd(F:Nat):HHz zf8 ki4 (zDc F) zDb [] 58 (zjT F):=hzz
theorem zDe(F:Nat)(a b c d:Int):KO0 (zjT F a b c d) (ym.ok F a b c d) (ym.i 0 F a b c d):=ko0 _
theorem zuh(F:Nat):yc PP 58 (unS (zz zf8 ki4 ym F)):=
 gzz F (zDd F) (zn)
def zbw(g s l h:Int):Prop:=0<=g/\g<=16/\0<=s/\0<=l/\1<=h/\h<=65535
instance(g s l h:Int):Decidable (zbw g s l h):=by unfold zbw;infer_instance
def zeS(l c0 c1 c2 t:Int):Prop:=(0<=t/\t<=1099511627776)/\(-l<=c0/\c0<=l)/\(-l<=c1/\c1<=l)/\(-l<=c2/\c2<=l)
instance(l c0 c1 c2 t:Int):Decidable (zeS l c0 c1 c2 t):=by unfold zeS;infer_instance
def zA3(p:Prop) [Decidable p]:Int:=if p then 0 else 2
theorem zwg{p:Prop} [Decidable p](h:p):(some (VV.v (.i 0)):R)=some (.v (.i (zA3 p))):=by unfold zA3;rw [if_pos h]
theorem zb8{p:Prop} [Decidable p](h: ¬p):(some (VV.v (.i 2)):R)=some (.v (.i (zA3 p))):=by unfold zA3;rw [if_neg h]
theorem zvc{p:Prop} [Decidable p](h:p):zA3 p=0:=if_pos h
theorem zA4{p:Prop} [Decidable p](h: ¬p):zA3 p=2:=if_neg h
theorem zKW(F:Nat)(g s l h:Int):jN.ok F g s l h=true/\jN.i 0 F g s l h=zA3 (zbw g s l h):=by
 refine zGZ F _ _ _ _ ?_;unfold zlZ;by_cases h1:g<0
 ·exact bp (dt h1) (zb8 (by unfold zbw;omega))
 refine bn (df h1) ?_;by_cases h2:g>16
 ·exact bp (dt h2) (zb8 (by unfold zbw;omega))
 refine bn (df h2) ?_;by_cases h3:s<0
 ·exact bp (dt h3) (zb8 (by unfold zbw;omega))
 refine bn (df h3) ?_;by_cases h4:l<0
 ·exact bp (dt h4) (zb8 (by unfold zbw;omega))
 refine bn (df h4) ?_;by_cases h5:h<1
 ·exact bp (dt h5) (zb8 (by unfold zbw;omega))
 refine bn (df h5) ?_;by_cases h6:h>65535
 ·exact bp (dt h6) (zb8 (by unfold zbw;omega))
 exact bn (df h6) (zwg (by unfold zbw;omega))
theorem zKX(F:Nat)(g s l h:Int):ym.ok F g s l h=true/\ym.i 0 F g s l h=zA3 (zbw g s l h):=by
 refine zDe F _ _ _ _ ?_;unfold zjT;by_cases h1:g<0
 ·exact bp (dt h1) (zb8 (by unfold zbw;omega))
 refine bn (df h1) ?_;by_cases h2:g>16
 ·exact bp (dt h2) (zb8 (by unfold zbw;omega))
 refine bn (df h2) ?_;by_cases h3:s<0
 ·exact bp (dt h3) (zb8 (by unfold zbw;omega))
 refine bn (df h3) ?_;by_cases h4:l<0
 ·exact bp (dt h4) (zb8 (by unfold zbw;omega))
 refine bn (df h4) ?_;by_cases h5:h<1
 ·exact bp (dt h5) (zb8 (by unfold zbw;omega))
 refine bn (df h5) ?_;by_cases h6:h>65535
 ·exact bp (dt h6) (zb8 (by unfold zbw;omega))
 exact bn (df h6) (zwg (by unfold zbw;omega))
theorem zSJ(F:Nat)(t:Int):zai.ok F t=true/\zai.b 0 F t=decide (0<=t/\t<=1099511627776):=by
 refine zKT F _ ?_;unfold zoc;by_cases h:t>=0
 ·exact bp (dt h) (zeJ (decide_eq_decide.2 zc))
 ·exact bn (df h) (zeJ (df zc).symm)
theorem zpU{a l:Int}:zv1 a l=false↔ -l<=a/\a<=l\/(l<0/\min (max a (-l)) l=a):=by
 unfold zv1;simp only [decide_eq_false_iff_not,ne_eq,Classical.not_not];omega
theorem zSK(F:Nat)(hF:200<=F){g s l h c0 c1 c2 t:Int}(hl:zr l):zbv.ok F g s l h c0 c1 c2 t=true/\zbv.i 0 F g s l h c0 c1 c2 t=zA3 (zbw g s l h/\zeS l c0 c1 c2 t):=by
 refine zG3 F _ _ _ _ _ _ _ _ ?_;unfold zrk zo5;obtain⟨k1,k2⟩:=zKW F g s l h;obtain⟨t1,t2⟩:=zSJ F t;refine bp k1 ?_;rw [k2];by_cases hr:zbw g s l h
 ·rw [zvc hr]
  refine bn rfl (bp t1 ?_);rw [t2];by_cases ht:0<=t/\t<=1099511627776
  ·rw [dt ht]
   obtain⟨v1,v2,v3,v4,v5⟩:=zSv F hF (a0:=c0) (a1:=c1) (a2:=c2) hl;refine bn rfl (bp v1 ?_);rw [v5];have hl0:max l 0=l:=by unfold zbw at hr;omega
   rw [hl0];have h0:0<=l:=by unfold zbw at hr;omega
   by_cases hc:(-l<=c0/\c0<=l)/\(-l<=c1/\c1<=l)/\(-l<=c2/\c2<=l)
   ·rw [zpU.2 (.inl hc.1),zpU.2 (.inl hc.2.1),zpU.2 (.inl hc.2.2)]
    exact bn rfl (zwg ⟨hr,ht,hc⟩)
   ·refine bp ?_ (zb8 fun h=>hc h.2.2)
    cases e0:zv1 c0 l
    ·cases e1:zv1 c1 l
     ·cases e2:zv1 c2 l
      ·exfalso
       have:=zpU.1 e0;have:=zpU.1 e1;have:=zpU.1 e2;omega
      ·rfl
     ·rfl
    ·rfl
  ·rw [df ht]
   exact bp rfl (zb8 fun h=>ht h.2.1)
 ·rw [zA4 hr]
  exact bp rfl (zb8 fun h=>hr h.1)
theorem zSL(F:Nat)(hF:200<=F){g s l h c0 c1 c2 la t:Int}(hl:zr l):zaC.ok F g s l h c0 c1 c2 la t=true/\zaC.b 0 F g s l h c0 c1 c2 la t=decide (zbw g s l h/\zeS l c0 c1 c2 la/\la<=t/\t<=1099511627776):=by
 refine zNH F _ _ _ _ _ _ _ _ _ ?_;unfold zvb zs0;obtain⟨k1,k2⟩:=zSK F hF (g:=g) (s:=s) (h:=h) (c0:=c0) (c1:=c1) (c2:=c2) (t:=la) hl;obtain⟨t1,t2⟩:=zSJ F t;refine bp k1 ?_;rw [k2];by_cases hr:zbw g s l h/\zeS l c0 c1 c2 la
 ·rw [zvc hr]
  refine bp rfl ?_;by_cases hle:t>=la
  ·refine bp (dt hle) (bp t1 ?_)
   rw [t2];refine zeJ (decide_eq_decide.2 ?_);have:=hr.2.1;constructor
   ·intro h;exact⟨hr.1,hr.2,hle,h.2⟩
   ·intro h;exact⟨zc,h.2.2.2⟩
  ·exact bn (df hle) (zeJ (df fun h=>hle h.2.2.1).symm)
 ·rw [zA4 hr]
  exact bn rfl (zeJ (df fun h=>hr ⟨h.1,h.2.1⟩).symm)
def ji(g s l c off:Int):Int:=zoX (zh (c+zoX (off/2^g.toNat) s)) l
def zd1(s c:Int):Int:=if 0<c then max (c-s) 0 else min (c+s) 0
theorem zNI{a m:Int}(h0:0<=m)(h1:m<=9223372036854775807):zr (zoX a m):=by unfold zoX zr;omega
theorem zNJ{a:Int}(ha:zr a)(n:Nat):zr (a/2^n):=by
 unfold zr at*
 have h2:(1:Int)<=2^n:=by have h3:(0:Int)<2^n:=Int.pow_pos dcz;omega
 refine⟨?_,?_⟩
 ·refine(Int.le_ediv_iff_mul_le zc).2 ?_
  have:=Int.mul_le_mul_of_nonneg_left h2 (show(0:Int)<=9223372036854775808 from zc);omega
 ·refine Int.ediv_lt_of_lt_mul zc ?_
  have:=Int.mul_le_mul_of_nonneg_left h2 (show(0:Int)<=9223372036854775808 from zc);omega
theorem I_W{z:Int}(h:zr z):zcr z:=by unfold zr at h;unfold zcr;omega
theorem zdr{g:Int}(h0:0<=g)(h1:g<=9223372036854775807):wrap .i64 (0-g)= -g:=by rw [zH (by unfold zr;omega)];omega
theorem zwh(F:Nat){a g:Int}(ha:zr a)(h0:0<=g)(h1:g<=16):yS.ok F a (-g)=true/\yS.i 0 F a (-g)=a/2^g.toNat/\yS.b 1 F a (-g)=false:=by
 refine zKP F _ _ ?_;unfold zsX zrj;dsimp only;by_cases hg:g=0
 ·subst hg
  obtain⟨f1,f2,f3⟩:=zSe F ha;refine bp (dt zc) (bp f1 ?_);rw [f2,f3,if_neg zc];obtain⟨l1,l2,l3⟩:=zMZ F a (-0);refine bp l1 ?_;rw [l2,l3];have e:a*2^(-0:Int).toNat=a:=by simp
  rw [e];obtain⟨c1,c2,c3⟩:=zzA F (I_W ha);refine bp c1 ?_;rw [c2,c3,(zjt ha).1,(zjt ha).2];have e2:a/2^(0:Int).toNat=a:=by simp
  rw [e2]
 ·refine bn (df zc) ?_
  rw [if_neg (show¬(-64:Int)> -g from zc)];have e:wrap .i64 (0- -g)=g:=by rw [zH (by unfold zr;omega)];omega
  rw [e,if_pos zc];refine bp (by rw [df zc];rfl) ?_;have e2:min (Int.toNat g) 64=g.toNat:=zc;rw [e2];refine congrArg some (congrArg VV.v ?_);have e3:a.fdiv (2^g.toNat)=a/2^g.toNat:=by
   rw [Int.fdiv_eq_ediv_of_nonneg];have h3:(0:Int)<2^g.toNat:=Int.pow_pos dcz;omega
  rw [e3]
theorem zeL(F:Nat)(hF:200<=F){a g:Int}(ha:zr a)(h0:0<=g)(h1:g<=16):zT.ok F a (-g)=true/\zT.i 0 F a (-g)=a/2^g.toNat/\zT.b 1 F a (-g)=false:=by
 refine zDa F _ _ ?_;unfold zo8 zm9;dsimp only;obtain⟨f1,f2,f3⟩:=zso F ha;by_cases hg:g=0
 ·subst hg
  refine bp (dt zc) (bp f1 ?_);rw [f2,f3,if_neg zc];obtain⟨l1,l2,l3⟩:=zOY F hF a (-0);refine bp l1 ?_;rw [l2,l3];have e:a*2^(-0:Int).toNat=a:=by simp
  rw [e];obtain⟨c1,c2,c3⟩:=zpM F (I_W ha);refine bp c1 ?_;rw [c2,c3,(zjt ha).1,(zjt ha).2];have e2:a/2^(0:Int).toNat=a:=by simp
  rw [e2]
 ·refine bn (df zc) (bp f1 ?_)
  rw [f2,f3,if_neg (show¬(-127:Int)> -g from zc)];have e:wrap .i64 (0- -g)=g:=by rw [zH (by unfold zr;omega)];omega
  rw [e,if_pos zc];obtain⟨l1,l2,l3⟩:=zR0 F hF g (I_W ha);have e2:cl g=g.toNat:=by unfold cl;omega
  rw [e2]at l2 l3;refine bp l1 ?_;rw [l2,l3];obtain⟨c1,c2,c3⟩:=zpM F (I_W (zNJ ha g.toNat));refine bp c1 ?_;rw [c2,c3,(zjt (zNJ ha _)).1,(zjt (zNJ ha _)).2]
theorem zrl(F:Nat)(hF:200<=F){a b:Int}(ha:zr a)(hb:zr b):yq.ok F a b=true/\yq.i 0 F a b=zh (a+b)/\yq.b 1 F a b=zw (a+b):=znL F _ _ (zzB F hF ha hb)
theorem zA5(F:Nat){g s l h c off:Int}(hr:zbw g s l h)(hs:zr s)(hl:zr l)(hc:zr c)(ho:zr off):zL.ok F g s l h c off=true/\zL.i 0 F g s l h c off=ji g s l c off:=by
 refine zu9 F _ _ _ _ _ _ ?_;unfold zgT zfP;dsimp only;obtain⟨r1,r2,r3,r4,_,_⟩:=hr;have hs2:s<=9223372036854775807:=by unfold zr at hs;omega
 have hl2:l<=9223372036854775807:=by unfold zr at hl;omega
 rw [zdr r1 zc,zdr r3 hs2,zdr r4 hl2];obtain⟨a1,a2,_⟩:=zwh F ho r1 r2;refine bp a1 ?_;rw [a2];obtain⟨b1,b2,_⟩:=zAM F (a:=off/2^g.toNat) r3;refine bp b1 ?_;rw [b2];obtain⟨c1,c2,_⟩:=zAA F hc (zNI (a:=off/2^g.toNat) r3 hs2);refine bp c1 ?_;rw [c2];obtain⟨d1,d2,_⟩:=zAM F (a:=zh (c+zoX (off/2^g.toNat) s)) r4;refine bp d1 ?_;rw [d2];rfl
theorem zG5(F:Nat){g s l h c off:Int}(hs0:0<=s)(hs:zr s)(hc:zr c):yo.ok F g s l h c off=true/\yo.i 0 F g s l h c off=zd1 s c:=by
 refine zwd F _ _ _ _ _ _ ?_;unfold zeV zd1;dsimp only;unfold zr at*
 by_cases h:c>0
 ·refine bp (dt h) ?_
  rw [zH (by unfold zr;omega),if_pos h];exact zd6 (by split<;>omega)
 ·refine bn (df h) ?_
  rw [zH (by unfold zr;omega),if_neg h];exact zd6 (by split<;>omega)
def axV(n k p c:Int):Int:=if k<n then p else c
theorem zDf(F:Nat)(hF:200<=F){g s l h c0 c1 c2 o0 o1 o2:Int}:
 zcW F g s l h c0 c1 c2 o0 o1 o2 0=some (.v (.agg #[.i c0,.i c1,.i c2])):=by
 obtain⟨G,hG⟩:∃G,F=G+4:=⟨F-4,zc⟩;have w0:wrap .i64 (0+1)=1:=dcz;have w1:wrap .i64 (1+1)=2:=dcz;have w2:wrap .i64 (2+1)=3:=dcz;unfold zcW zfF;rw [show yI F _ F=yI F _ (G+4)from congrArg (yI F _) hG];rw [za9];unfold zaA zam;dsimp only;refine bp rfl (bp rfl (bp rfl (bp rfl (bn rfl ?_))));rw [show(iv [VV.v (.i c0),.v (.i c1),.v (.i c2)][Int.toNat 0*1]?)=c0 from rfl,w0];rw [za9];unfold zaA zam;dsimp only;refine bp rfl (bp rfl (bp rfl (bp rfl (bn rfl ?_))));rw [show(iv [VV.v (.i c0),.v (.i c1),.v (.i c2)][Int.toNat 1*1]?)=c1 from rfl,w1];rw [za9];unfold zaA zam;dsimp only;refine bp rfl (bp rfl (bp rfl (bp rfl (bn rfl ?_))))
 rw [show(iv [VV.v (.i c0),.v (.i c1),.v (.i c2)][Int.toNat 2*1]?)=c2 from rfl,w2];rw [za9];unfold zaA zam;dsimp only;refine bn rfl (bp rfl rfl)
theorem zDg(F:Nat)(hF:200<=F){g s l h c0 c1 c2 o0 o1 o2 q0:Int}(p0:zL.ok F g s l h c0 o0=true/\zL.i 0 F g s l h c0 o0=q0):
 zcW F g s l h c0 c1 c2 o0 o1 o2 1=some (.v (.agg #[.i q0,.i c1,.i c2])):=by
 obtain⟨G,hG⟩:∃G,F=G+4:=⟨F-4,zc⟩;have w0:wrap .i64 (0+1)=1:=dcz;have w1:wrap .i64 (1+1)=2:=dcz;have w2:wrap .i64 (2+1)=3:=dcz;unfold zcW zfF;rw [show yI F _ F=yI F _ (G+4)from congrArg (yI F _) hG];rw [za9];unfold zaA zam;dsimp only;refine bp rfl (bp rfl (bp rfl (bp rfl (bp rfl (bp rfl (bp rfl (bp p0.1 (bp rfl (bp rfl ?_)))))))));rw [show(iv [VV.v (.i c0),.v (.i c1),.v (.i c2)][Int.toNat 0*1]?)=c0 from rfl,show(iv [VV.v (.i o0),.v (.i o1),.v (.i o2)][0+Int.toNat 0*1]?)=o0 from rfl,p0.2,w0];rw [za9];unfold zaA zam;dsimp only;refine bp rfl (bp rfl (bp rfl (bp rfl (bn rfl ?_))));rw [show(iv [VV.v (.i c0),.v (.i c1),.v (.i c2)][Int.toNat 1*1]?)=c1 from rfl,w1]
 rw [za9];unfold zaA zam;dsimp only;refine bp rfl (bp rfl (bp rfl (bp rfl (bn rfl ?_))));rw [show(iv [VV.v (.i c0),.v (.i c1),.v (.i c2)][Int.toNat 2*1]?)=c2 from rfl,w2];rw [za9];unfold zaA zam;dsimp only;refine bn rfl (bp rfl rfl)
theorem zDh(F:Nat)(hF:200<=F){g s l h c0 c1 c2 o0 o1 o2 q0 q1:Int}(p0:zL.ok F g s l h c0 o0=true/\zL.i 0 F g s l h c0 o0=q0)(p1:zL.ok F g s l h c1 o1=true/\zL.i 0 F g s l h c1 o1=q1):
 zcW F g s l h c0 c1 c2 o0 o1 o2 2=some (.v (.agg #[.i q0,.i q1,.i c2])):=by
 obtain⟨G,hG⟩:∃G,F=G+4:=⟨F-4,zc⟩;have w0:wrap .i64 (0+1)=1:=dcz;have w1:wrap .i64 (1+1)=2:=dcz;have w2:wrap .i64 (2+1)=3:=dcz;unfold zcW zfF;rw [show yI F _ F=yI F _ (G+4)from congrArg (yI F _) hG];rw [za9];unfold zaA zam;dsimp only;refine bp rfl (bp rfl (bp rfl (bp rfl (bp rfl (bp rfl (bp rfl (bp p0.1 (bp rfl (bp rfl ?_)))))))));rw [show(iv [VV.v (.i c0),.v (.i c1),.v (.i c2)][Int.toNat 0*1]?)=c0 from rfl,show(iv [VV.v (.i o0),.v (.i o1),.v (.i o2)][0+Int.toNat 0*1]?)=o0 from rfl,p0.2,w0];rw [za9];unfold zaA zam;dsimp only;refine bp rfl (bp rfl (bp rfl (bp rfl (bp rfl (bp rfl (bp rfl (bp p1.1 (bp rfl (bp rfl ?_)))))))))
 rw [show(iv [VV.v (.i c0),.v (.i c1),.v (.i c2)][Int.toNat 1*1]?)=c1 from rfl,show(iv [VV.v (.i o0),.v (.i o1),.v (.i o2)][0+Int.toNat 1*1]?)=o1 from rfl,p1.2,w1];rw [za9];unfold zaA zam;dsimp only;refine bp rfl (bp rfl (bp rfl (bp rfl (bn rfl ?_))));rw [show(iv [VV.v (.i c0),.v (.i c1),.v (.i c2)][Int.toNat 2*1]?)=c2 from rfl,w2];rw [za9];unfold zaA zam;dsimp only;refine bn rfl (bp rfl rfl)
theorem zDi(F:Nat)(hF:200<=F){g s l h c0 c1 c2 o0 o1 o2 q0 q1 q2:Int}(p0:zL.ok F g s l h c0 o0=true/\zL.i 0 F g s l h c0 o0=q0)(p1:zL.ok F g s l h c1 o1=true/\zL.i 0 F g s l h c1 o1=q1)(p2:zL.ok F g s l h c2 o2=true/\zL.i 0 F g s l h c2 o2=q2):
 zcW F g s l h c0 c1 c2 o0 o1 o2 3=some (.v (.agg #[.i q0,.i q1,.i q2])):=by
 obtain⟨G,hG⟩:∃G,F=G+4:=⟨F-4,zc⟩;have w0:wrap .i64 (0+1)=1:=dcz;have w1:wrap .i64 (1+1)=2:=dcz;have w2:wrap .i64 (2+1)=3:=dcz;unfold zcW zfF;rw [show yI F _ F=yI F _ (G+4)from congrArg (yI F _) hG];rw [za9];unfold zaA zam;dsimp only;refine bp rfl (bp rfl (bp rfl (bp rfl (bp rfl (bp rfl (bp rfl (bp p0.1 (bp rfl (bp rfl ?_)))))))));rw [show(iv [VV.v (.i c0),.v (.i c1),.v (.i c2)][Int.toNat 0*1]?)=c0 from rfl,show(iv [VV.v (.i o0),.v (.i o1),.v (.i o2)][0+Int.toNat 0*1]?)=o0 from rfl,p0.2,w0];rw [za9];unfold zaA zam;dsimp only;refine bp rfl (bp rfl (bp rfl (bp rfl (bp rfl (bp rfl (bp rfl (bp p1.1 (bp rfl (bp rfl ?_)))))))))
 rw [show(iv [VV.v (.i c0),.v (.i c1),.v (.i c2)][Int.toNat 1*1]?)=c1 from rfl,show(iv [VV.v (.i o0),.v (.i o1),.v (.i o2)][0+Int.toNat 1*1]?)=o1 from rfl,p1.2,w1];rw [za9];unfold zaA zam;dsimp only;refine bp rfl (bp rfl (bp rfl (bp rfl (bp rfl (bp rfl (bp rfl (bp p2.1 (bp rfl (bp rfl ?_)))))))));rw [show(iv [VV.v (.i c0),.v (.i c1),.v (.i c2)][Int.toNat 2*1]?)=c2 from rfl,show(iv [VV.v (.i o0),.v (.i o1),.v (.i o2)][0+Int.toNat 2*1]?)=o2 from rfl,p2.2,w2];rw [za9];unfold zaA zam;dsimp only;refine bn rfl (bp rfl rfl)
theorem zzd(F:Nat)(hF:200<=F){g s l h c0 c1 c2 o0 o1 o2 q0 q1 q2:Int}(p0:yo.ok F g s l h c0 o0=true/\yo.i 0 F g s l h c0 o0=q0)(p1:yo.ok F g s l h c1 o1=true/\yo.i 0 F g s l h c1 o1=q1)(p2:yo.ok F g s l h c2 o2=true/\yo.i 0 F g s l h c2 o2=q2):
 zjS F g s l h c0 c1 c2 o0 o1 o2 3=some (.v (.agg #[.i q0,.i q1,.i q2])):=by
 obtain⟨G,hG⟩:∃G,F=G+4:=⟨F-4,zc⟩;have w0:wrap .i64 (0+1)=1:=dcz;have w1:wrap .i64 (1+1)=2:=dcz;have w2:wrap .i64 (2+1)=3:=dcz;unfold zjS zm7;rw [show jg F _ F=jg F _ (G+4)from congrArg (jg F _) hG];rw [zgy];unfold zdw zc6;dsimp only;refine bp rfl (bp rfl (bp rfl (bp rfl (bp rfl (bp rfl (bp rfl (bp p0.1 (bp rfl (bp rfl ?_)))))))));rw [show(iv [VV.v (.i c0),.v (.i c1),.v (.i c2)][Int.toNat 0*1]?)=c0 from rfl,show(iv [VV.v (.i o0),.v (.i o1),.v (.i o2)][0+Int.toNat 0*1]?)=o0 from rfl,p0.2,w0];rw [zgy];unfold zdw zc6;dsimp only;refine bp rfl (bp rfl (bp rfl (bp rfl (bp rfl (bp rfl (bp rfl (bp p1.1 (bp rfl (bp rfl ?_)))))))))
 rw [show(iv [VV.v (.i c0),.v (.i c1),.v (.i c2)][Int.toNat 1*1]?)=c1 from rfl,show(iv [VV.v (.i o0),.v (.i o1),.v (.i o2)][0+Int.toNat 1*1]?)=o1 from rfl,p1.2,w1];rw [zgy];unfold zdw zc6;dsimp only;refine bp rfl (bp rfl (bp rfl (bp rfl (bp rfl (bp rfl (bp rfl (bp p2.1 (bp rfl (bp rfl ?_)))))))));rw [show(iv [VV.v (.i c0),.v (.i c1),.v (.i c2)][Int.toNat 2*1]?)=c2 from rfl,show(iv [VV.v (.i o0),.v (.i o1),.v (.i o2)][0+Int.toNat 2*1]?)=o2 from rfl,p2.2,w2];rw [zgy];unfold zdw zc6;dsimp only;refine bn rfl (bp rfl rfl)
def zG6:Cfg:=⟨[0,1,4,5,6,7,8,10,30],[],[17],[]⟩
def zl1:Sg:=⟨[.v (.int .i32),.i],.v (.int .u32)⟩
def zG7(zF:jQ)(yW yE:Qi3)(F:Nat):=zS [(78,zz zem ki2 zF F),(120,zz zhl ki3 yW F),(104,zz zkj ki3 yE F)]
def zpa(zF:jQ)(yW yE:Qi3)(F:Nat):FT ki2:=fun o h=>let l:Int:=if 0>h then 0 else h;let a:Int:=if 65535<l then 65535 else l;let b:Int:=wrap .i64 o;bif(zF.ok F b a)then let c:Int:=zF.i 0 F b a;let d:Int:=zF.i 1 F b a;bif(yW.ok F c d 16)then let e:Int:=yW.i 0 F c d 16;let g:Int:=yW.i 1 F c d 16;bif(yE.ok F e g 100)then let m:Int:=wrap .u32 (Int.tmod (yE.i 1 F e g 100) 4294967296);bif(decide ((yE.i 2 F e g 100)<0))then some (.v (.int .u32 (wrap .u32 (m-1))))else some (.v (.int .u32 m))else none else none else none
def zl2:=zpa zF yW yE
def zaP:jQ:=mkQ (l:=ki2) zl1.o zl2
theorem zG8(zF:jQ)(yW yE:Qi3)(F:Nat):HHz zl1 ki2 (zG7 zF yW yE F) zG6 [] 106 (zpa zF yW yE F):=hzz
theorem zG9(F:Nat)(a b:Int):KO8 (zl2 F a b) (zaP.ok F a b) (zaP.i 0 F a b):=ko8 _
theorem zHa(F:Nat):yc PP 106 (unS (zz zl1 ki2 zaP F)):=
 gzz F (zG8 zF yW yE F) (zd (zkh F) (zd (zvH F) (zd (zyc F) zn)))
def zHb:Cfg:=⟨[0,1,4,5,6,7,8,21],[],[],[]⟩
def zl3:Sg:=⟨[.v (.int .i32),.i],.v (.int .u32)⟩
def zHc(F:Nat):=zS []
def zh9(F:Nat):FT ki2:=fun g b=>let c:Int:=if 0>b then 0 else b;let d:Int:=wrap .i64 ((wrap .i64 g)*(if 65535<c then 65535 else c));let e:Int:=wrap .i64 (Int.tdiv d 100);let a:Int:=Int.tmod d 100;bif(decide (a<0))then some (.v (.int .u32 (wrap .u32 ((wrap .u32 ((wrap .u32 (wrap .i64 (e-1)))*65536))+(wrap .u32 (wrap .i64 (Int.tdiv (wrap .i64 ((wrap .i64 (a+100))*65536)) 100)))))))else some (.v (.int .u32 (wrap .u32 ((wrap .u32 ((wrap .u32 e)*65536))+(wrap .u32 (wrap .i64 (Int.tdiv (wrap .i64 (a*65536)) 100)))))))
def zaQ:jQ:=mkQ (l:=ki2) zl3.o zh9
theorem zHd(F:Nat):HHz zl3 ki2 (zHc F) zHb [] 130 (zh9 F):=hzz
theorem zHe(F:Nat)(a b:Int):KO8 (zh9 F a b) (zaQ.ok F a b) (zaQ.i 0 F a b):=ko8 _
theorem zHf(F:Nat):yc PP 130 (unS (zz zl3 ki2 zaQ F)):=
 gzz F (zHd F) (zn)
theorem zWB{x:Int}(h:x<0)(d:Int):Int.tdiv x d= -Int.tdiv (-x) d/\Int.tmod x d= -Int.tmod (-x) d:=by
 rw [Int.neg_tdiv,Int.neg_tmod];omega
theorem zVP(x:Int):(0<=x->Int.tdiv x 100=x/100/\Int.tmod x 100=x%100)/\(x<0->Int.tdiv x 100= -(-x/100)/\Int.tmod x 100= -(-x%100)):=by
 constructor
 ·intro h
  exact⟨Int.tdiv_eq_ediv_of_nonneg h,Int.tmod_eq_emod_of_nonneg h⟩
 ·intro h
  obtain⟨h1,h2⟩:=zWB h 100;rw [h1,h2,Int.tdiv_eq_ediv_of_nonneg zc,Int.tmod_eq_emod_of_nonneg zc];exact⟨rfl,rfl⟩
def tk(n:Int):Int:=if 65535<(if 0>n then 0 else n)then 65535 else(if 0>n then 0 else n)
theorem zSM(n:Int):0<=tk n/\tk n<=65535:=by unfold tk;split<;>split<;>omega
theorem zSN{a:Int}(ha:I32 a)(n:Int): -140737488355328<=a*tk n/\a*tk n<=140737488355328:=by
 unfold I32 at ha;have h:=zSM n;have:(a*tk n).natAbs<=2147483648*65536:=by
  rw [Int.natAbs_mul];exact Nat.mul_le_mul zc zc
 omega
def zna(x:Int):Int:=(x*65536/100)%4294967296
theorem zA6{x w r:Int}(h:x=100*w+r)(h1:0<=r)(h2:r<100)(hw: -140737488355328<=w/\w<=140737488355328):wrap .u32 (wrap .u32 (wrap .u32 (wrap .i64 w)*65536)+wrap .u32 (r*65536/100))=zna x:=by
 have e:x*65536/100=65536*w+r*65536/100:=zc;unfold zna;rw [e,zH (by unfold zr;omega)];simp only [zuA];generalize r*65536/100=s;omega
theorem zWC(F:Nat){a n:Int}(ha:I32 a):zh9 F a n=some (.v (.int .u32 (zna (a*tk n)))):=by
 unfold zh9;have hb:=zSN ha n;have hb2:=zSM n;have e:(if 65535<(if 0>n then 0 else n)then 65535 else(if 0>n then 0 else n))=tk n:=rfl;dsimp only;rw [e,zH (x:=a) (by unfold I32 at ha;unfold zr;omega),zH (x:=a*tk n) (by unfold zr;omega)];generalize a*tk n=x at*
 obtain⟨q1,q2⟩:=zVP x;have hr:∀y:Int,0<=y->y<=6553600->wrap .i64 (Int.tdiv (wrap .i64 y) 100)=y/100:=by
  intro y h1 h2;rw [zH (x:=y) (by unfold zr;omega),Int.tdiv_eq_ediv_of_nonneg h1,zH (by unfold zr;omega)]
 rcases Int.lt_or_le x 0 with hx|hx
 ·obtain⟨h1,h2⟩:=q2 hx
  rw [h1,h2];by_cases h0: -(-x%100)<0
  ·refine bp (dt h0) (zeb ?_)
   rw [zH (x:= -(-x%100)+100) (by unfold zr;omega),hr _ zc zc,zH (x:= -(-x/100)) (by unfold zr;omega)];exact zA6 zc zc zc zc
  ·refine bn (df h0) (zeb ?_)
   rw [hr _ zc zc];exact zA6 zc zc zc zc
 ·obtain⟨h1,h2⟩:=q1 hx
  rw [h1,h2];refine bn (df zc) (zeb ?_);rw [hr _ zc zc];exact zA6 zc zc zc zc
theorem zNK(F:Nat){a:Int}(n:Int)(ha:I32 a):zaQ.ok F a n=true/\zaQ.i 0 F a n=zna (a*tk n):=zHe F _ _ (zWC F ha)
theorem zUK(F:Nat)(hF:200<=F){a n:Int}(ha:I32 a):zl2 F a n=some (.v (.int .u32 (zna (a*tk n)))):=by
 unfold zl2 zpa;have hb:=zSN ha n;have hb2:=zSM n;have e:(if 65535<(if 0>n then 0 else n)then 65535 else(if 0>n then 0 else n))=tk n:=rfl;dsimp only;have hI:zr a:=by unfold I32 at ha;unfold zr;omega
 rw [e,zH hI];obtain⟨m1,m2,m3⟩:=zAv F hF hI (b:=tk n) (by unfold zr;omega);obtain⟨l1,l2,l3⟩:=zOY F hF (a*tk n) 16;rw [show((16:Int).toNat)=16 from rfl,show(2:Int)^16=65536 from dcz]at l2 l3;have hd:=zR7 F hF (zwP (a*tk n*65536)) (zeZ (a*tk n*65536)) (b:=100) (by unfold zr;omega);rw [zce,zvz (by unfold zcr;omega)]at hd;unfold zFk at hd;rw [if_neg dcz]at hd;obtain⟨d1,d2,d3,d4,d5⟩:=zyb F _ _ _ hd;refine bp m1 ?_;rw [m2,m3];refine bp l1 ?_;rw [l2,l3];refine bp d1 ?_;rw [d3,d4];clear hd d1 d2 d3 d4 d5 l1 l2 l3 m1 m2 m3;generalize a*tk n=x at*
 obtain⟨q1,q2⟩:=zVP (x*65536);have hl:=zeZ (Int.tdiv (x*65536) 100);unfold U64 at hl;have hlo:∀q:Int,lo q%4294967296=q%4294967296:=by intro q;unfold lo;omega
 rw [Int.tmod_eq_emod_of_nonneg hl.1,hlo];unfold zna;generalize x*65536=y at*
 rcases Int.lt_or_le y 0 with hx|hx
 ·obtain⟨h1,h2⟩:=q2 hx
  rw [h1,h2];by_cases h0: -(-y%100)<0
  ·refine bp (dt h0) (zeb ?_)
   simp only [zuA];omega
  ·refine bn (df h0) (zeb ?_)
   simp only [zuA];omega
 ·obtain⟨h1,h2⟩:=q1 hx
  rw [h1,h2];refine bn (df zc) (zeb ?_);simp only [zuA];omega
def zYm(z:Int):Int:=if z< -2147483648 then-2147483648 else if 2147483647<z then 2147483647 else z
def zYn(z:Int):Bool:=decide (z< -2147483648\/2147483647<z)
abbrev sp(z:Int):VV:=.v (.tuple #[.int .i32 (zYm z),.bool (zYn z)])
def zDj:Cfg:=⟨[0,1,2],[],[],[]⟩
def zjU:Sg:=⟨[.v (.agg [.i,.i,.i,.i,.i,.i,.i,.i,.i,.i])],.v (.int .u32)⟩
def zDk(zbh:Qi9)(F:Nat):=zS [(84,zz zjM ki9 zbh F)]
def znb(zbh:Qi9)(F:Nat):FT zmy:=fun a b c d e g h l m o=>bif(zbh.ok F a b c d e g h l m)then some (.v (.int .u32 (zbh.i 0 F a b c d e g h l m)))else none
def zpb:=znb zbh
def zcX:zXo:=mkQ (l:=zmy) zjU.o zpb
theorem zDl(zbh:Qi9)(F:Nat):HHz zjU zmy (zDk zbh F) zDj [] 39 (znb zbh F):=hzz
theorem zDm(F:Nat)(a b c d e g h l m o:Int):KO8 (zpb F a b c d e g h l m o) (zcX.ok F a b c d e g h l m o) (zcX.i 0 F a b c d e g h l m o):=ko8 _
theorem zDn(F:Nat):yc PP 39 (unS (zz zjU zmy zcX F)):=
 gzz F (zDl zbh F) (zd (zCO F) zn)
def zQO:Cfg:=⟨[0],[],[],[]⟩
def ztA:Sg:=⟨[],.v (.agg [.i,.i,.i,.i,.i,.i,.i,.i,.i,.i])⟩
def zQP(zl:Q0)(F:Nat):=zS [(56,zz zi6 k0 zl F)]
def zvd(zl:Q0)(F:Nat):FT k0:=bif(zl.ok F)then some (.v (.agg #[.i (zl.i 0 F),.i (zl.i 1 F),.i (zl.i 2 F),.i (zl.i 3 F),.i (zl.i 4 F),.i (zl.i 5 F),.i (zl.i 6 F),.i (zl.i 7 F),.i (zl.i 8 F),.i 0]))else none
def zxr:=zvd zl
def jU:Q0:=mkQ (l:=k0) ztA.o zxr
theorem zQQ(zl:Q0)(F:Nat):HHz ztA k0 (zQP zl F) zQO [] 22 (zvd zl F):=hzz
theorem zQR(F:Nat):KO3 (zxr F) (jU.ok F) (jU.i 0 F) (jU.i 1 F) (jU.i 2 F) (jU.i 3 F) (jU.i 4 F) (jU.i 5 F) (jU.i 6 F) (jU.i 7 F) (jU.i 8 F) (jU.i 9 F):=ko3 _
theorem zQS(F:Nat):yc PP 22 (unS (zz ztA k0 jU F)):=
 gzz F (zQQ zl F) (zd (zu4 F) zn)
def zve:Cfg:=⟨[0,1,2,3,4,6,7,8,9,10,11,12,13,15,16,19,20,21,29,50],[(0,[0,1,2,3,4,6,7,8,9,17,18,19,20,48,49,50,51,52,53,54,55,56,57,58,59,60,61,62,63,64])],[],[]⟩
def zrm:Sg:=⟨[.v (.agg [.i,.i,.i,.i,.i,.i,.i,.i,.i,.i]),.v (.agg [.int .i32,.int .i32,.int .i32]),.i],.v (.tup [.agg [.i,.i,.i,.i,.i,.i,.i,.i,.i,.i],.bool])⟩
def zvf(zaQ zq:jQ)(yk:zBI)(zO:Qi9)(F:Nat):=zS [(130,zz zl3 ki2 zaQ F),(131,zz zn6 ki2 zq F),(132,zz zty ziD yk F),(133,zz zoa ki9 zO F)]
def zl4:TS:=⟨[(0,.v (.agg [.i,.i,.i,.i,.i,.i,.i,.i,.i,.i])),(1,.v (.agg [.int .i32,.int .i32,.int .i32])),(2,.i),(3,.lp 0 (.lit 0)),(4,.lp 1 (.lit 0)),(6,.lp 2 (.lit 0)),(7,.v (.bool)),(8,.v (.bool)),(9,.lp 3 (.lit 0)),(19,.v (.agg [.int .i32,.int .i32,.int .i32])),(20,.i)],[(0,⟨(.ex [.i,.i,.i,.i,.i,.i,.i,.i,.i,.i]),true⟩),(1,⟨(.ex [.v (.int .i32),.v (.int .i32),.v (.int .i32)]),true⟩),(2,⟨(.ex [.i,.i,.i,.i,.i,.i,.i,.i,.i,.i]),true⟩),(3,⟨(.ex [.i,.i,.i,.i,.i,.i,.i,.i,.i]),true⟩)],4⟩
def zA7:TS:=zl4
def zeM(zaQ zq:jQ)(yk:zBI)(F:Nat)(rc ex0:FT zc1):FT zc1:=fun x0 x1 x2 x3 x4 x5 x6 x7 x8 x9 D E G u H x15 w x y a I J K L M N O P Q T U V X Y Z x35 x36 x37 x38 x39 x40 x41 x42 c d e g h l m o p=>bif(decide (a<3))then bif(((decide (0<=a))&&(decide (a<3)))&&((isI .i32 [.v (.int .i32 w),.v (.int .i32 x),.v (.int .i32 y)][((Int.toNat a)*1)]?)&&true))then let v0:Int:=iv [.v (.int .i32 w),.v (.int .i32 x),.v (.int .i32 y)][((Int.toNat a)*1)]?;let v1:Int:=if(-2147483647)>v0 then-2147483647 else v0;bif(zaQ.ok F v1 u)then let z:Int:=zaQ.i 0 F v1 u;bif(z==0)then rc x0 x1 x2 x3 x4 x5 x6 x7 x8 x9 D E G u H x15 w x y (wrap .i64 (a+1)) I J K L M N O P Q T U V X Y Z x35 x36 x37 x38 x39 x40 x41 x42 c d e g h l m o p else bif(zq.ok F a z)then let f:Int:=zq.i 0 F a z;let n:Int:=zq.i 1 F a z;let r:Int:=zq.i 2 F a z;let j:Int:=zq.i 3 F a z;let A:Int:=zq.i 4 F a z;let B:Int:=zq.i 5 F a z;let C:Int:=zq.i 6 F a z;let s:Int:=zq.i 7 F a z;let t:Int:=zq.i 8 F a z;bif(yk.ok F c d e g h l m o p f n r j A B C s t)then let v12:Int:=yk.i 0 F c d e g h l m o p f n r j A B C s t;let v13:Int:=yk.i 1 F c d e g h l m o p f n r j A B C s t;let v14:Int:=yk.i 2 F c d e g h l m o p f n r j A B C s t;let v15:Int:=yk.i 3 F c d e g h l m o p f n r j A B C s t;let v16:Int:=yk.i 4 F c d e g h l m o p f n r j A B C s t;let v17:Int:=yk.i 5 F c d e g h l m o p f n r j A B C s t;let v18:Int:=yk.i 6 F c d e g h l m o p f n r j A B C s t;let v19:Int:=yk.i 7 F c d e g h l m o p f n r j A B C s t;let v20:Int:=yk.i 8 F c d e g h l m o p f n r j A B C s t;bif x15 then rc x0 x1 x2 x3 x4 x5 x6 x7 x8 x9 D E G u H true w x y (wrap .i64 (a+1)) I J K L M N O P Q T U V X Y Z x35 x36 x37 x38 x39 x40 x41 x42 v12 v13 v14 v15 v16 v17 v18 v19 v20 else rc x0 x1 x2 x3 x4 x5 x6 x7 x8 x9 D E G u H (yk.b 9 F c d e g h l m o p f n r j A B C s t) w x y (wrap .i64 (a+1)) I J K L M N O P Q T U V X Y Z x35 x36 x37 x38 x39 x40 x41 x42 v12 v13 v14 v15 v16 v17 v18 v19 v20 else none else none else none else none else ex0 x0 x1 x2 x3 x4 x5 x6 x7 x8 x9 D E G u H x15 w x y a I J K L M N O P Q T U V X Y Z x35 x36 x37 x38 x39 x40 x41 x42 c d e g h l m o p
def zfG:=zeM zaQ zq yk
def jn(F:Nat)(a:FT zc1):Nat->FT zc1:=lY fun b=>zfG F b a
theorem zl5{F n}{a}:jn F a (n+1)=zfG F (jn F a n) a:=rfl
def znc(k:Exit->VS->R):FT zc1:=cQ _ fun q=>k (.exit 0) (fS zA7 q)
def znd(jn:Nat->FT zc1->Nat->FT zc1)(F:Nat):List LW:=[⟨0,zl4,fun k q=>uQ _ (jn F (znc k) F) q⟩]
theorem zDo(F:Nat)(k:Exit->VS->R):∀n q,iQ PP (zvf zaQ zq yk zO F) zve (znd jn F) [] 88 0 0 k n zl4 q=uQ _ (jn F (znc k) n) q:=
 lG (fun _=>by kernel_rfl) ((hzz:∀(zaQ:jQ) (zq:jQ) (yk:zBI) (zO:Qi9) (jn:Nat->FT zc1->Nat->FT zc1),LH PP (zvf zaQ zq yk zO F) zve (znd jn F) [] 88 0 0 k zl4 (fun a=>zeM zaQ zq yk F a (znc k))) zaQ zq yk zO jn)
def zs1(zO:Qi9)(jn:Nat->FT zc1->Nat->FT zc1)(F:Nat):FT zBJ:=fun w x y z f n r j A C o p s B=>jn F (fun D E G H I J K L M N O P Q T U t V X Y Z v41 v42 v43 v44 v45 v46 v47 v48 v49 u v51 v52 v53 v54 v55 v56 v57 v58 v59 v60 v61 v62 v63 a b c d e g h l m=>bif(decide (u>=15))then bif(zO.ok F a b c d e g h l m)then some (.v (.tuple #[.agg #[.i (zO.i 0 F a b c d e g h l m),.i (zO.i 1 F a b c d e g h l m),.i (zO.i 2 F a b c d e g h l m),.i (zO.i 3 F a b c d e g h l m),.i (zO.i 4 F a b c d e g h l m),.i (zO.i 5 F a b c d e g h l m),.i (zO.i 6 F a b c d e g h l m),.i (zO.i 7 F a b c d e g h l m),.i (zO.i 8 F a b c d e g h l m),.i 0],.bool t]))else none else some (.v (.tuple #[.agg #[.i a,.i b,.i c,.i d,.i e,.i g,.i h,.i l,.i m,.i (wrap .i64 (u+1))],.bool t]))) F w x y z f n r j A C o p s B false false o p s 0 w x y z f n r j A C o p s 0 0 0 0 0 0 0 0 0 0 w x y z f n r j A
def zrn:=zs1 zO jn
def yT:zXp:=mkQ (l:=zBJ) zrm.o zrn
theorem zNL(zaQ zq:jQ)(yk:zBI)(zO:Qi9)(jn:Nat->FT zc1->Nat->FT zc1)(F:Nat):HHz zrm zBJ (zvf zaQ zq yk zO F) zve (znd jn F) 88 (zs1 zO jn F):=hzz
theorem zNM(F:Nat)(g h l m o p s t u v a c d e:Int):zWf (zrn F g h l m o p s t u v a c d e) (yT.ok F g h l m o p s t u v a c d e) (yT.i 0 F g h l m o p s t u v a c d e) (yT.i 1 F g h l m o p s t u v a c d e) (yT.i 2 F g h l m o p s t u v a c d e) (yT.i 3 F g h l m o p s t u v a c d e) (yT.i 4 F g h l m o p s t u v a c d e) (yT.i 5 F g h l m o p s t u v a c d e) (yT.i 6 F g h l m o p s t u v a c d e) (yT.i 7 F g h l m o p s t u v a c d e) (yT.i 8 F g h l m o p s t u v a c d e) (yT.i 9 F g h l m o p s t u v a c d e) (yT.b 10 F g h l m o p s t u v a c d e):=zXy _
theorem zNN(F:Nat):yc PP 88 (unS (zz zrm zBJ yT F)):=
 gzl (W:=znd jn) F (zNL zaQ zq yk zO jn F) (zd (zHf F) (zd (zKw F) (zd (zQG F) (zd (zKI F) zn)))) (jP [(0,zaK PP 88 0)] kfz (zd (jZ (znd jn F) rfl (yn (fun _ k q=>Le.ofEq (zDo F k F q).symm) jY)) zn))
end Go.Xv
namespace Go.Xv
def MI(M:Mt):Prop:=zr M.a0/\zr M.a1/\zr M.a2/\zr M.a3/\zr M.a4/\zr M.a5/\zr M.a6/\zr M.a7/\zr M.a8
theorem zWD(A B:Mt):MI (zpT A B):=⟨jk _,jk _,jk _,jk _,jk _,jk _,jk _,jk _,jk _⟩
theorem zEk(k:Nat)(x:Int):MI (abM k x):=by
 obtain⟨⟨c1,c2⟩,s1,s2⟩:=zOU x;have z:zr 0:=by unfold zr;omega
 have n:zr 4294967296:=by unfold zr;omega
 have c:zr (zdZ x):=by unfold zr;omega
 have s:zr (zc7 x):=by unfold zr;omega
 have ns:zr (-zc7 x):=by unfold zr;omega
 match k with
 |0=>exact⟨n,z,z,z,c,ns,z,s,c⟩
 |1=>exact⟨c,z,s,z,n,z,ns,z,c⟩
 |_+2=>exact⟨c,ns,z,s,c,z,z,z,n⟩
theorem zwi{M:Mt}(h:MI M)(k:Nat)(b:Int):MI (goM M k b):=by
 unfold goM;split
 ·exact h
 ·exact zWD _ _
theorem zSO(F:Nat)(hF:200<=F){x:Int}(hx:U32 x):zq.ok F 0 x=true/\zq.i 0 F 0 x=(abM 0 x).a0/\zq.i 1 F 0 x=(abM 0 x).a1/\zq.i 2 F 0 x=(abM 0 x).a2/\zq.i 3 F 0 x=(abM 0 x).a3/\zq.i 4 F 0 x=(abM 0 x).a4/\zq.i 5 F 0 x=(abM 0 x).a5/\zq.i 6 F 0 x=(abM 0 x).a6/\zq.i 7 F 0 x=(abM 0 x).a7/\zq.i 8 F 0 x=(abM 0 x).a8:=by
 obtain⟨h,h0,h1,h2,h3,h4,h5,h6,h7,h8,_⟩:=zQH F hF hx;exact⟨h,h0,h1,h2,h3,h4,h5,h6,h7,h8⟩
theorem zSP(F:Nat)(hF:200<=F){x:Int}(hx:U32 x):zq.ok F 1 x=true/\zq.i 0 F 1 x=(abM 1 x).a0/\zq.i 1 F 1 x=(abM 1 x).a1/\zq.i 2 F 1 x=(abM 1 x).a2/\zq.i 3 F 1 x=(abM 1 x).a3/\zq.i 4 F 1 x=(abM 1 x).a4/\zq.i 5 F 1 x=(abM 1 x).a5/\zq.i 6 F 1 x=(abM 1 x).a6/\zq.i 7 F 1 x=(abM 1 x).a7/\zq.i 8 F 1 x=(abM 1 x).a8:=by
 obtain⟨h,h0,h1,h2,h3,h4,h5,h6,h7,h8,_⟩:=zQJ F hF hx;exact⟨h,h0,h1,h2,h3,h4,h5,h6,h7,h8⟩
theorem zSQ(F:Nat)(hF:200<=F){x:Int}(hx:U32 x):zq.ok F 2 x=true/\zq.i 0 F 2 x=(abM 2 x).a0/\zq.i 1 F 2 x=(abM 2 x).a1/\zq.i 2 F 2 x=(abM 2 x).a2/\zq.i 3 F 2 x=(abM 2 x).a3/\zq.i 4 F 2 x=(abM 2 x).a4/\zq.i 5 F 2 x=(abM 2 x).a5/\zq.i 6 F 2 x=(abM 2 x).a6/\zq.i 7 F 2 x=(abM 2 x).a7/\zq.i 8 F 2 x=(abM 2 x).a8:=by
 obtain⟨h,h0,h1,h2,h3,h4,h5,h6,h7,h8,_⟩:=zQL F hF hx;exact⟨h,h0,h1,h2,h3,h4,h5,h6,h7,h8⟩
theorem zSR(F:Nat)(hF:200<=F){A B:Mt}(hA:MI A)(hB:MI B):yk.ok F A.a0 A.a1 A.a2 A.a3 A.a4 A.a5 A.a6 A.a7 A.a8 B.a0 B.a1 B.a2 B.a3 B.a4 B.a5 B.a6 B.a7 B.a8=true/\yk.i 0 F A.a0 A.a1 A.a2 A.a3 A.a4 A.a5 A.a6 A.a7 A.a8 B.a0 B.a1 B.a2 B.a3 B.a4 B.a5 B.a6 B.a7 B.a8=(zpT A B).a0/\yk.i 1 F A.a0 A.a1 A.a2 A.a3 A.a4 A.a5 A.a6 A.a7 A.a8 B.a0 B.a1 B.a2 B.a3 B.a4 B.a5 B.a6 B.a7 B.a8=(zpT A B).a1/\yk.i 2 F A.a0 A.a1 A.a2 A.a3 A.a4 A.a5 A.a6 A.a7 A.a8 B.a0 B.a1 B.a2 B.a3 B.a4 B.a5 B.a6 B.a7 B.a8=(zpT A B).a2/\yk.i 3 F A.a0 A.a1 A.a2 A.a3 A.a4 A.a5 A.a6 A.a7 A.a8 B.a0 B.a1 B.a2 B.a3 B.a4 B.a5 B.a6 B.a7 B.a8=(zpT A B).a3/\yk.i 4 F A.a0 A.a1 A.a2 A.a3 A.a4 A.a5 A.a6 A.a7 A.a8 B.a0 B.a1 B.a2 B.a3 B.a4 B.a5 B.a6 B.a7 B.a8=(zpT A B).a4/\yk.i 5 F A.a0 A.a1 A.a2 A.a3 A.a4 A.a5 A.a6 A.a7 A.a8 B.a0 B.a1 B.a2 B.a3 B.a4 B.a5 B.a6 B.a7 B.a8=(zpT A B).a5/\yk.i 6 F A.a0 A.a1 A.a2 A.a3 A.a4 A.a5 A.a6 A.a7 A.a8 B.a0 B.a1 B.a2 B.a3 B.a4 B.a5 B.a6 B.a7 B.a8=(zpT A B).a6/\yk.i 7 F A.a0 A.a1 A.a2 A.a3 A.a4 A.a5 A.a6 A.a7 A.a8 B.a0 B.a1 B.a2 B.a3 B.a4 B.a5 B.a6 B.a7 B.a8=(zpT A B).a7/\yk.i 8 F A.a0 A.a1 A.a2 A.a3 A.a4 A.a5 A.a6 A.a7 A.a8 B.a0 B.a1 B.a2 B.a3 B.a4 B.a5 B.a6 B.a7 B.a8=(zpT A B).a8/\yk.b 9 F A.a0 A.a1 A.a2 A.a3 A.a4 A.a5 A.a6 A.a7 A.a8 B.a0 B.a1 B.a2 B.a3 B.a4 B.a5 B.a6 B.a7 B.a8=zWA A B:=by
 obtain⟨x0,x1,x2,x3,x4,x5,x6,x7,x8⟩:=hA;obtain⟨y0,y1,y2,y3,y4,y5,y6,y7,y8⟩:=hB;exact zWz F hF x0 x1 x2 x3 x4 x5 x6 x7 x8 y0 y1 y2 y3 y4 y5 y6 y7 y8
theorem zUL(F:Nat)(hF:200<=F){A:Mt}(hA:MI A):zO.ok F A.a0 A.a1 A.a2 A.a3 A.a4 A.a5 A.a6 A.a7 A.a8=true/\zO.i 0 F A.a0 A.a1 A.a2 A.a3 A.a4 A.a5 A.a6 A.a7 A.a8=(upM A).a0/\zO.i 1 F A.a0 A.a1 A.a2 A.a3 A.a4 A.a5 A.a6 A.a7 A.a8=(upM A).a1/\zO.i 2 F A.a0 A.a1 A.a2 A.a3 A.a4 A.a5 A.a6 A.a7 A.a8=(upM A).a2/\zO.i 3 F A.a0 A.a1 A.a2 A.a3 A.a4 A.a5 A.a6 A.a7 A.a8=(upM A).a3/\zO.i 4 F A.a0 A.a1 A.a2 A.a3 A.a4 A.a5 A.a6 A.a7 A.a8=(upM A).a4/\zO.i 5 F A.a0 A.a1 A.a2 A.a3 A.a4 A.a5 A.a6 A.a7 A.a8=(upM A).a5/\zO.i 6 F A.a0 A.a1 A.a2 A.a3 A.a4 A.a5 A.a6 A.a7 A.a8=(upM A).a6/\zO.i 7 F A.a0 A.a1 A.a2 A.a3 A.a4 A.a5 A.a6 A.a7 A.a8=(upM A).a7/\zO.i 8 F A.a0 A.a1 A.a2 A.a3 A.a4 A.a5 A.a6 A.a7 A.a8=(upM A).a8:=by
 obtain⟨x0,x1,x2,x3,x4,x5,x6,x7,x8⟩:=hA;obtain⟨h,h0,h1,h2,h3,h4,h5,h6,h7,h8,_⟩:=zKK F hF x0 x1 x2 x3 x4 x5 x6 x7 x8;exact⟨h,h0,h1,h2,h3,h4,h5,h6,h7,h8⟩
def zne(r:Int):Int:=if(-2147483647)>r then(-2147483647)else r
theorem zxs{r:Int}(h:I32 r):I32 (zne r):=by unfold zne;unfold I32 at*;split<;>omega
def yv(r t:Int):Int:=zna (zne r*tk t)
theorem zQT(r t:Int):0<=yv r t/\yv r t<4294967296:=by unfold yv zna;omega
theorem zYo(F:Nat)(hF:200<=F)(ex)(G:Nat)(x0 x1 x2 x3 x4 x5 x6 x7 x8 x9 x10 x11 x12:Int)(x14:Bool)(x20 x21 x22 x23 x24 x25 x26 x27 x28 x29 x30 x31 x32 x33 x34 x35 x36 x37 x38 x39 x40 x41 x42:Int){t r0 r1 r2:Int}(hr:I32 r0)(any:Bool){M:Mt}(hM:MI M):
 jn F ex (G+1) x0 x1 x2 x3 x4 x5 x6 x7 x8 x9 x10 x11 x12 t x14 any r0 r1 r2 0 x20 x21 x22 x23 x24 x25 x26 x27 x28 x29 x30 x31 x32 x33 x34 x35 x36 x37 x38 x39 x40 x41 x42 M.a0 M.a1 M.a2 M.a3 M.a4 M.a5 M.a6 M.a7 M.a8=jn F ex G x0 x1 x2 x3 x4 x5 x6 x7 x8 x9 x10 x11 x12 t x14 (any||goK M 0 (yv r0 t)) r0 r1 r2 1 x20 x21 x22 x23 x24 x25 x26 x27 x28 x29 x30 x31 x32 x33 x34 x35 x36 x37 x38 x39 x40 x41 x42 (goM M 0 (yv r0 t)).a0 (goM M 0 (yv r0 t)).a1 (goM M 0 (yv r0 t)).a2 (goM M 0 (yv r0 t)).a3 (goM M 0 (yv r0 t)).a4 (goM M 0 (yv r0 t)).a5 (goM M 0 (yv r0 t)).a6 (goM M 0 (yv r0 t)).a7 (goM M 0 (yv r0 t)).a8:=by
 have w:wrap .i64 (0+1)=1:=dcz;obtain⟨t1,t2⟩:=zNK F t (zxs hr);have hb:=zQT r0 t;rw [zl5];unfold zfG zeM;dsimp only;refine bp rfl (bp rfl ?_);rw [show(iv [VV.v (.int .i32 r0),.v (.int .i32 r1),.v (.int .i32 r2)][Int.toNat 0*1]?)=r0 from rfl,show(if(-2147483647)>r0 then(-2147483647)else r0)=zne r0 from rfl,w];refine bp t1 ?_;rw [t2,show zna (zne r0*tk t)=yv r0 t from rfl];by_cases h0:yv r0 t=0
 ·refine bp (by rw [h0];rfl) ?_
  unfold goM goK;rw [if_pos h0,if_pos h0,Bool.or_false]
 ·obtain⟨a,a0,a1,a2,a3,a4,a5,a6,a7,a8⟩:=zSO F hF (x:=yv r0 t) hb
  obtain⟨m,m0,m1,m2,m3,m4,m5,m6,m7,m8,m9⟩:=zSR F hF hM (zEk 0 (yv r0 t));refine bn (by simpa using h0) (bp a ?_);rw [a0,a1,a2,a3,a4,a5,a6,a7,a8];refine bp m ?_;rw [m0,m1,m2,m3,m4,m5,m6,m7,m8,m9];unfold goM goK;rw [if_neg h0,if_neg h0];cases any
  ·rfl
  ·rfl
theorem zYp(F:Nat)(hF:200<=F)(ex)(G:Nat)(x0 x1 x2 x3 x4 x5 x6 x7 x8 x9 x10 x11 x12:Int)(x14:Bool)(x20 x21 x22 x23 x24 x25 x26 x27 x28 x29 x30 x31 x32 x33 x34 x35 x36 x37 x38 x39 x40 x41 x42:Int){t r0 r1 r2:Int}(hr:I32 r1)(any:Bool){M:Mt}(hM:MI M):
 jn F ex (G+1) x0 x1 x2 x3 x4 x5 x6 x7 x8 x9 x10 x11 x12 t x14 any r0 r1 r2 1 x20 x21 x22 x23 x24 x25 x26 x27 x28 x29 x30 x31 x32 x33 x34 x35 x36 x37 x38 x39 x40 x41 x42 M.a0 M.a1 M.a2 M.a3 M.a4 M.a5 M.a6 M.a7 M.a8=jn F ex G x0 x1 x2 x3 x4 x5 x6 x7 x8 x9 x10 x11 x12 t x14 (any||goK M 1 (yv r1 t)) r0 r1 r2 2 x20 x21 x22 x23 x24 x25 x26 x27 x28 x29 x30 x31 x32 x33 x34 x35 x36 x37 x38 x39 x40 x41 x42 (goM M 1 (yv r1 t)).a0 (goM M 1 (yv r1 t)).a1 (goM M 1 (yv r1 t)).a2 (goM M 1 (yv r1 t)).a3 (goM M 1 (yv r1 t)).a4 (goM M 1 (yv r1 t)).a5 (goM M 1 (yv r1 t)).a6 (goM M 1 (yv r1 t)).a7 (goM M 1 (yv r1 t)).a8:=by
 have w:wrap .i64 (1+1)=2:=dcz;obtain⟨t1,t2⟩:=zNK F t (zxs hr);have hb:=zQT r1 t;rw [zl5];unfold zfG zeM;dsimp only;refine bp rfl (bp rfl ?_);rw [show(iv [VV.v (.int .i32 r0),.v (.int .i32 r1),.v (.int .i32 r2)][Int.toNat 1*1]?)=r1 from rfl,show(if(-2147483647)>r1 then(-2147483647)else r1)=zne r1 from rfl,w];refine bp t1 ?_;rw [t2,show zna (zne r1*tk t)=yv r1 t from rfl];by_cases h0:yv r1 t=0
 ·refine bp (by rw [h0];rfl) ?_
  unfold goM goK;rw [if_pos h0,if_pos h0,Bool.or_false]
 ·obtain⟨a,a0,a1,a2,a3,a4,a5,a6,a7,a8⟩:=zSP F hF (x:=yv r1 t) hb
  obtain⟨m,m0,m1,m2,m3,m4,m5,m6,m7,m8,m9⟩:=zSR F hF hM (zEk 1 (yv r1 t));refine bn (by simpa using h0) (bp a ?_);rw [a0,a1,a2,a3,a4,a5,a6,a7,a8];refine bp m ?_;rw [m0,m1,m2,m3,m4,m5,m6,m7,m8,m9];unfold goM goK;rw [if_neg h0,if_neg h0];cases any
  ·rfl
  ·rfl
theorem zYq(F:Nat)(hF:200<=F)(ex)(G:Nat)(x0 x1 x2 x3 x4 x5 x6 x7 x8 x9 x10 x11 x12:Int)(x14:Bool)(x20 x21 x22 x23 x24 x25 x26 x27 x28 x29 x30 x31 x32 x33 x34 x35 x36 x37 x38 x39 x40 x41 x42:Int){t r0 r1 r2:Int}(hr:I32 r2)(any:Bool){M:Mt}(hM:MI M):
 jn F ex (G+1) x0 x1 x2 x3 x4 x5 x6 x7 x8 x9 x10 x11 x12 t x14 any r0 r1 r2 2 x20 x21 x22 x23 x24 x25 x26 x27 x28 x29 x30 x31 x32 x33 x34 x35 x36 x37 x38 x39 x40 x41 x42 M.a0 M.a1 M.a2 M.a3 M.a4 M.a5 M.a6 M.a7 M.a8=jn F ex G x0 x1 x2 x3 x4 x5 x6 x7 x8 x9 x10 x11 x12 t x14 (any||goK M 2 (yv r2 t)) r0 r1 r2 3 x20 x21 x22 x23 x24 x25 x26 x27 x28 x29 x30 x31 x32 x33 x34 x35 x36 x37 x38 x39 x40 x41 x42 (goM M 2 (yv r2 t)).a0 (goM M 2 (yv r2 t)).a1 (goM M 2 (yv r2 t)).a2 (goM M 2 (yv r2 t)).a3 (goM M 2 (yv r2 t)).a4 (goM M 2 (yv r2 t)).a5 (goM M 2 (yv r2 t)).a6 (goM M 2 (yv r2 t)).a7 (goM M 2 (yv r2 t)).a8:=by
 have w:wrap .i64 (2+1)=3:=dcz;obtain⟨t1,t2⟩:=zNK F t (zxs hr);have hb:=zQT r2 t;rw [zl5];unfold zfG zeM;dsimp only;refine bp rfl (bp rfl ?_);rw [show(iv [VV.v (.int .i32 r0),.v (.int .i32 r1),.v (.int .i32 r2)][Int.toNat 2*1]?)=r2 from rfl,show(if(-2147483647)>r2 then(-2147483647)else r2)=zne r2 from rfl,w];refine bp t1 ?_;rw [t2,show zna (zne r2*tk t)=yv r2 t from rfl];by_cases h0:yv r2 t=0
 ·refine bp (by rw [h0];rfl) ?_
  unfold goM goK;rw [if_pos h0,if_pos h0,Bool.or_false]
 ·obtain⟨a,a0,a1,a2,a3,a4,a5,a6,a7,a8⟩:=zSQ F hF (x:=yv r2 t) hb
  obtain⟨m,m0,m1,m2,m3,m4,m5,m6,m7,m8,m9⟩:=zSR F hF hM (zEk 2 (yv r2 t));refine bn (by simpa using h0) (bp a ?_);rw [a0,a1,a2,a3,a4,a5,a6,a7,a8];refine bp m ?_;rw [m0,m1,m2,m3,m4,m5,m6,m7,m8,m9];unfold goM goK;rw [if_neg h0,if_neg h0];cases any
  ·rfl
  ·rfl
theorem zWE(F:Nat)(hF:200<=F){a:Att}(hM:MI a.m)(hn:a.n<9223372036854775807/\ -9223372036854775808<=a.n){r0 r1 r2 t:Int}(h0:I32 r0)(h1:I32 r1)(h2:I32 r2):
 zrn F a.m.a0 a.m.a1 a.m.a2 a.m.a3 a.m.a4 a.m.a5 a.m.a6 a.m.a7 a.m.a8 a.n r0 r1 r2 t=some (.v (.tuple #[.agg #[.i (zaF a (yv r0 t) (yv r1 t) (yv r2 t)).m.a0,.i (zaF a (yv r0 t) (yv r1 t) (yv r2 t)).m.a1,.i (zaF a (yv r0 t) (yv r1 t) (yv r2 t)).m.a2,.i (zaF a (yv r0 t) (yv r1 t) (yv r2 t)).m.a3,.i (zaF a (yv r0 t) (yv r1 t) (yv r2 t)).m.a4,.i (zaF a (yv r0 t) (yv r1 t) (yv r2 t)).m.a5,.i (zaF a (yv r0 t) (yv r1 t) (yv r2 t)).m.a6,.i (zaF a (yv r0 t) (yv r1 t) (yv r2 t)).m.a7,.i (zaF a (yv r0 t) (yv r1 t) (yv r2 t)).m.a8,.i (zaF a (yv r0 t) (yv r1 t) (yv r2 t)).n],.bool (zri a.m (yv r0 t) (yv r1 t) (yv r2 t))])):=by
 obtain⟨G,hG⟩:∃G,F=G+4:=⟨F-4,zc⟩;have g0:=zwi hM 0 (yv r0 t);have g1:=zwi g0 1 (yv r1 t);have g2:=zwi g1 2 (yv r2 t);unfold zrn zs1;rw [show jn F _ F=jn F _ (G+4)from congrArg (jn F _) hG];rw [zYo F hF _ (G+3) (hr:=h0) (any:=false) (hM:=hM),zYp F hF _ (G+2) (hr:=h1) (hM:=g0),zYq F hF _ (G+1) (hr:=h2) (hM:=g1),zl5];unfold zfG zeM;refine bn rfl ?_;have ek:(false||goK a.m 0 (yv r0 t)||goK (goM a.m 0 (yv r0 t)) 1 (yv r1 t)||goK (goM (goM a.m 0 (yv r0 t)) 1 (yv r1 t)) 2 (yv r2 t))=zri a.m (yv r0 t) (yv r1 t) (yv r2 t):=by rw [Bool.false_or];rfl
 rw [ek];have hg:goM (goM (goM a.m 0 (yv r0 t)) 1 (yv r1 t)) 2 (yv r2 t)=go3 a.m (yv r0 t) (yv r1 t) (yv r2 t):=rfl;rw [hg]at g2⊢;generalize hK:zri a.m (yv r0 t) (yv r1 t) (yv r2 t)=K;unfold zaF;generalize go3 a.m (yv r0 t) (yv r1 t) (yv r2 t)=B at*
 by_cases hc:15<=a.n
 ·rw [if_pos hc]
  obtain⟨m,m0,m1,m2,m3,m4,m5,m6,m7,m8⟩:=zUL F hF g2;refine bp (dt hc) (bp m ?_);rw [m0,m1,m2,m3,m4,m5,m6,m7,m8]
 ·rw [if_neg hc]
  refine bn (df zc) ?_;rw [zH (by unfold zr;omega)]
theorem zWF(F:Nat)(hF:200<=F){a:Att}(hM:MI a.m)(hn:a.n<9223372036854775807/\ -9223372036854775808<=a.n){r0 r1 r2 t:Int}(h0:I32 r0)(h1:I32 r1)(h2:I32 r2):yT.ok F a.m.a0 a.m.a1 a.m.a2 a.m.a3 a.m.a4 a.m.a5 a.m.a6 a.m.a7 a.m.a8 a.n r0 r1 r2 t=true/\yT.i 0 F a.m.a0 a.m.a1 a.m.a2 a.m.a3 a.m.a4 a.m.a5 a.m.a6 a.m.a7 a.m.a8 a.n r0 r1 r2 t=(zaF a (yv r0 t) (yv r1 t) (yv r2 t)).m.a0/\yT.i 1 F a.m.a0 a.m.a1 a.m.a2 a.m.a3 a.m.a4 a.m.a5 a.m.a6 a.m.a7 a.m.a8 a.n r0 r1 r2 t=(zaF a (yv r0 t) (yv r1 t) (yv r2 t)).m.a1/\yT.i 2 F a.m.a0 a.m.a1 a.m.a2 a.m.a3 a.m.a4 a.m.a5 a.m.a6 a.m.a7 a.m.a8 a.n r0 r1 r2 t=(zaF a (yv r0 t) (yv r1 t) (yv r2 t)).m.a2/\yT.i 3 F a.m.a0 a.m.a1 a.m.a2 a.m.a3 a.m.a4 a.m.a5 a.m.a6 a.m.a7 a.m.a8 a.n r0 r1 r2 t=(zaF a (yv r0 t) (yv r1 t) (yv r2 t)).m.a3/\yT.i 4 F a.m.a0 a.m.a1 a.m.a2 a.m.a3 a.m.a4 a.m.a5 a.m.a6 a.m.a7 a.m.a8 a.n r0 r1 r2 t=(zaF a (yv r0 t) (yv r1 t) (yv r2 t)).m.a4/\yT.i 5 F a.m.a0 a.m.a1 a.m.a2 a.m.a3 a.m.a4 a.m.a5 a.m.a6 a.m.a7 a.m.a8 a.n r0 r1 r2 t=(zaF a (yv r0 t) (yv r1 t) (yv r2 t)).m.a5/\yT.i 6 F a.m.a0 a.m.a1 a.m.a2 a.m.a3 a.m.a4 a.m.a5 a.m.a6 a.m.a7 a.m.a8 a.n r0 r1 r2 t=(zaF a (yv r0 t) (yv r1 t) (yv r2 t)).m.a6/\yT.i 7 F a.m.a0 a.m.a1 a.m.a2 a.m.a3 a.m.a4 a.m.a5 a.m.a6 a.m.a7 a.m.a8 a.n r0 r1 r2 t=(zaF a (yv r0 t) (yv r1 t) (yv r2 t)).m.a7/\yT.i 8 F a.m.a0 a.m.a1 a.m.a2 a.m.a3 a.m.a4 a.m.a5 a.m.a6 a.m.a7 a.m.a8 a.n r0 r1 r2 t=(zaF a (yv r0 t) (yv r1 t) (yv r2 t)).m.a8/\yT.i 9 F a.m.a0 a.m.a1 a.m.a2 a.m.a3 a.m.a4 a.m.a5 a.m.a6 a.m.a7 a.m.a8 a.n r0 r1 r2 t=(zaF a (yv r0 t) (yv r1 t) (yv r2 t)).n/\yT.b 10 F a.m.a0 a.m.a1 a.m.a2 a.m.a3 a.m.a4 a.m.a5 a.m.a6 a.m.a7 a.m.a8 a.n r0 r1 r2 t=zri a.m (yv r0 t) (yv r1 t) (yv r2 t):=zNM F _ _ _ _ _ _ _ _ _ _ _ _ _ _ (zWE F hF hM hn h0 h1 h2)
theorem zXU(F:Nat)(hF:200<=F):jU.ok F=true/\jU.i 0 F=zcH.m.a0/\jU.i 1 F=zcH.m.a1/\jU.i 2 F=zcH.m.a2/\jU.i 3 F=zcH.m.a3/\jU.i 4 F=zcH.m.a4/\jU.i 5 F=zcH.m.a5/\jU.i 6 F=zcH.m.a6/\jU.i 7 F=zcH.m.a7/\jU.i 8 F=zcH.m.a8/\jU.i 9 F=zcH.n:=by
 refine zQR F ?_;unfold zxr zvd;obtain⟨m,m0,m1,m2,m3,m4,m5,m6,m7,m8⟩:=zv6 F hF;refine bp m ?_;rw [m0,m1,m2,m3,m4,m5,m6,m7,m8];rfl
theorem zNO(F:Nat)(hF:200<=F){a:Att}(hM:MI a.m):zcX.ok F a.m.a0 a.m.a1 a.m.a2 a.m.a3 a.m.a4 a.m.a5 a.m.a6 a.m.a7 a.m.a8 a.n=true/\zcX.i 0 F a.m.a0 a.m.a1 a.m.a2 a.m.a3 a.m.a4 a.m.a5 a.m.a6 a.m.a7 a.m.a8 a.n=zcQ a.m.a3 a.m.a0:=by
 refine zDm F _ _ _ _ _ _ _ _ _ _ ?_;unfold zpb znb;obtain⟨h,k⟩:=zQN F hF (a1:=a.m.a1) (a2:=a.m.a2) (a4:=a.m.a4) (a5:=a.m.a5) (a6:=a.m.a6) (a7:=a.m.a7) (a8:=a.m.a8) hM.1 hM.2.2.2.1;refine bp h ?_;rw [k]
namespace Cx

end Cx
namespace Cx
end Cx
end Go.Xv
namespace Go.Xv
def zDp:Cfg:=⟨[0,2],[],[],[]⟩
def zf9:Sg:=⟨[.v (.int .i32)],.i⟩
def zDq(F:Nat):=zS []
def zjV(F:Nat):FT ki:=fun a=>
 some (.v (.i (wrap .i64 ((wrap .i64 a)*65536))))
def jR:Qi:=mkQ (l:=ki) zf9.o zjV
theorem zDr(F:Nat):HHz zf9 ki (zDq F) zDp [] 40 (zjV F):=hzz
theorem zDs(F:Nat)(a:Int):KO0 (zjV F a) (jR.ok F a) (jR.i 0 F a):=ko0 _
theorem zui(F:Nat):yc PP 40 (unS (zz zf9 ki jR F)):=
 gzz F (zDr F) (zn)
def zvg:Cfg:=⟨[0,1,2,3,4,5,6,7,8,9,10,11],[(0,[0,1,2,3,4,5,6,9,10,19,20,21,22,23,24])],[],[]⟩
def zro:Sg:=⟨[.v (.agg [.i,.i,.i,.i,.i,.i,.i,.i,.i,.i]),.v (.agg [.int .i32,.int .i32,.int .i32])],.v (.tup [.agg [.i,.i,.i],.bool])⟩
def zvh(jR:Qi)(zB:ztM)(F:Nat):=zS [(40,zz zf9 ki jR F),(134,zz zkB zyF zB F)]
def zl6:TS:=⟨[(0,.v (.agg [.i,.i,.i,.i,.i,.i,.i,.i,.i,.i])),(1,.v (.agg [.int .i32,.int .i32,.int .i32])),(2,.lp 0 (.lit 0)),(3,.lp 1 (.lit 0)),(4,.lp 2 (.lit 0)),(5,.v (.bool)),(6,.lp 3 (.lit 0)),(9,.v (.agg [.int .i32,.int .i32,.int .i32])),(10,.i)],[(0,⟨(.ex [.i,.i,.i,.i,.i,.i,.i,.i,.i,.i]),true⟩),(1,⟨(.ex [.v (.int .i32),.v (.int .i32),.v (.int .i32)]),true⟩),(2,⟨(.ex [.i,.i,.i]),true⟩),(3,⟨.hole,true⟩)],4⟩
def zA8:TS:=zl6
def zcd(jR:Qi)(F:Nat)(T D:FT zc2):FT zc2:=fun G H I J K L M N O P g h l m b c d a o p s t u w x y z f n r j A B C e=>bif(decide (a<3))then bif(((decide (0<=a))&&(decide (a<3)))&&((isI .i32 [.v (.int .i32 b),.v (.int .i32 c),.v (.int .i32 d)][((Int.toNat a)*1)]?)&&true))then let Q:Int:=iv [.v (.int .i32 b),.v (.int .i32 c),.v (.int .i32 d)][((Int.toNat a)*1)]?;bif(jR.ok F Q)then bif((decide (0<=a))&&(decide (a<3)))then let E:Nat:=0+((Int.toNat a)*1);bif(decide ((E+1)<=e.length))then T G H I J K L M N O P g h l m b c d (wrap .i64 (a+1)) o p s t u w x y z f n r j A B C (e.take E++[.v (.i (jR.i 0 F Q))]++e.drop (E+1))else none else none else none else none else D G H I J K L M N O P g h l m b c d a o p s t u w x y z f n r j A B C e
def zcB:=zcd jR
def jX(F:Nat)(a:FT zc2):Nat->FT zc2:=lY fun b=>zcB F b a
theorem zdO{F n}{a}:jX F a (n+1)=zcB F (jX F a n) a:=rfl
def znf(k:Exit->VS->R):FT zc2:=cQ _ fun q=>k (.exit 0) (fS zA8 q)
def zng(jX:Nat->FT zc2->Nat->FT zc2)(F:Nat):List LW:=[⟨0,zl6,fun k q=>uQ _ (jX F (znf k) F) q⟩]
theorem zDt(F:Nat)(k:Exit->VS->R):∀n q,iQ PP (zvh jR zB F) zvg (zng jX F) [] 89 0 0 k n zl6 q=uQ _ (jX F (znf k) n) q:=
 lG (fun _=>by kernel_rfl) ((hzz:∀(jR:Qi) (zB:ztM) (jX:Nat->FT zc2->Nat->FT zc2),LH PP (zvh jR zB F) zvg (zng jX F) [] 89 0 0 k zl6 (fun a=>zcd jR F a (znf k))) jR zB jX)
def zof(zB:ztM)(jX:Nat->FT zc2->Nat->FT zc2)(F:Nat):FT zpz:=fun z f n r j A B C D E w x y=>jX F (fun v2 v3 v4 v5 v6 v7 v8 v9 G H I J K L M N O P c d e g h l m o p Q T U V X Y Z a=>bif((isI .i64 a[0]?)&&((isI .i64 a[1]?)&&((isI .i64 a[2]?)&&true)))then let s:Int:=iv a[0]?;let t:Int:=iv a[1]?;let u:Int:=iv a[2]?;bif(zB.ok F c d e g h l m o p s t u)then some (.v (.tuple #[.agg #[.i (zB.i 0 F c d e g h l m o p s t u),.i (zB.i 1 F c d e g h l m o p s t u),.i (zB.i 2 F c d e g h l m o p s t u)],.bool (zB.b 3 F c d e g h l m o p s t u)]))else none else none) F z f n r j A B C D E w x y false w x y 0 z f n r j A B C D E w x y 0 0 0 ([.v (.i 0),.v (.i 0),.v (.i 0)])
def zrp:=zof zB jX
def zba:zUg:=mkQ (l:=zpz) zro.o zrp
theorem zNP(jR:Qi)(zB:ztM)(jX:Nat->FT zc2->Nat->FT zc2)(F:Nat):HHz zro zpz (zvh jR zB F) zvg (zng jX F) 89 (zof zB jX F):=hzz
theorem zA9(F:Nat)(e g h l m o p s t u a c d:Int):zkR (zrp F e g h l m o p s t u a c d) (zba.ok F e g h l m o p s t u a c d) (zba.i 0 F e g h l m o p s t u a c d) (zba.i 1 F e g h l m o p s t u a c d) (zba.i 2 F e g h l m o p s t u a c d) (zba.b 3 F e g h l m o p s t u a c d):=zll _
theorem zNQ(F:Nat):yc PP 89 (unS (zz zro zpz zba F)):=
 gzl (W:=zng jX) F (zNP jR zB jX F) (zd (zui F) (zd (zym F) zn)) (jP [(0,zaK PP 89 0)] kfz (zd (jZ (zng jX F) rfl (yn (fun _ k q=>Le.ofEq (zDt F k F q).symm) jY)) zn))
def zHg:Cfg:=⟨[0,1,2,4,10],[],[],[]⟩
def zl7:Sg:=⟨[.v (.agg [.i,.i,.i,.i,.i,.i,.i,.i,.i,.i]),.i],.v (.agg [.i,.i,.i])⟩
def zHh(zQ:Qi9)(F:Nat):=zS [(127,zz zm0 ki9 zQ F)]
def zdW(zQ:Qi9)(F:Nat):FT zpA:=fun b c d e g h l m o n a=>bif(decide (a<0))then some (.v (.agg #[.i 0,.i 0,.i 0]))else bif(decide (a>=3))then some (.v (.agg #[.i 0,.i 0,.i 0]))else bif(zQ.ok F b c d e g h l m o)then let p:Int:=zQ.i 0 F b c d e g h l m o;let s:Int:=zQ.i 1 F b c d e g h l m o;let t:Int:=zQ.i 2 F b c d e g h l m o;let u:Int:=zQ.i 3 F b c d e g h l m o;let w:Int:=zQ.i 4 F b c d e g h l m o;let x:Int:=zQ.i 5 F b c d e g h l m o;let y:Int:=zQ.i 6 F b c d e g h l m o;let z:Int:=zQ.i 7 F b c d e g h l m o;let f:Int:=zQ.i 8 F b c d e g h l m o;bif(((decide (0<=a))&&(decide (a<3)))&&((isI .i64 [.v (.i p),.v (.i s),.v (.i t),.v (.i u),.v (.i w),.v (.i x),.v (.i y),.v (.i z),.v (.i f)][((Int.toNat a)*3)]?)&&((isI .i64 [.v (.i p),.v (.i s),.v (.i t),.v (.i u),.v (.i w),.v (.i x),.v (.i y),.v (.i z),.v (.i f)][(((Int.toNat a)*3)+1)]?)&&((isI .i64 [.v (.i p),.v (.i s),.v (.i t),.v (.i u),.v (.i w),.v (.i x),.v (.i y),.v (.i z),.v (.i f)][((((Int.toNat a)*3)+1)+1)]?)&&true))))then some (.v (.agg #[.i (iv [.v (.i p),.v (.i s),.v (.i t),.v (.i u),.v (.i w),.v (.i x),.v (.i y),.v (.i z),.v (.i f)][((Int.toNat a)*3)]?),.i (iv [.v (.i p),.v (.i s),.v (.i t),.v (.i u),.v (.i w),.v (.i x),.v (.i y),.v (.i z),.v (.i f)][(((Int.toNat a)*3)+1)]?),.i (iv [.v (.i p),.v (.i s),.v (.i t),.v (.i u),.v (.i w),.v (.i x),.v (.i y),.v (.i z),.v (.i f)][((((Int.toNat a)*3)+1)+1)]?)]))else none else none
def zeB:=zdW zQ
def za5:zBK:=mkQ (l:=zpA) zl7.o zeB
theorem zHi(zQ:Qi9)(F:Nat):HHz zl7 zpA (zHh zQ F) zHg [] 86 (zdW zQ F):=hzz
theorem zia(F:Nat)(b c d e g h l m o p a:Int):zRQ (zeB F b c d e g h l m o p a) (za5.ok F b c d e g h l m o p a) (za5.i 0 F b c d e g h l m o p a) (za5.i 1 F b c d e g h l m o p a) (za5.i 2 F b c d e g h l m o p a):=zUj _
theorem zHj(F:Nat):yc PP 86 (unS (zz zl7 zpA za5 F)):=
 gzz F (zHi zQ F) (zd (zAZ F) zn)
def zDu:Cfg:=⟨[0,2],[],[],[]⟩
def zga:Sg:=⟨[.v (.int .i32)],.i⟩
def zDv(F:Nat):=zS []
def zjW(F:Nat):FT ki:=fun a=>
 some (.v (.i (wrap .i64 (65536*(wrap .i64 a)))))
def jS:Qi:=mkQ (l:=ki) zga.o zjW
theorem zDw(F:Nat):HHz zga ki (zDv F) zDu [] 73 (zjW F):=hzz
theorem zDx(F:Nat)(a:Int):KO0 (zjW F a) (jS.ok F a) (jS.i 0 F a):=ko0 _
theorem zuj(F:Nat):yc PP 73 (unS (zz zga ki jS F)):=
 gzz F (zDw F) (zn)
def zze:Cfg:=⟨[0,1,2],[],[],[]⟩
def zgz:Sg:=⟨[.v (.agg [.i,.i,.i,.i,.i,.i,.i,.i,.i,.i])],.v (.int .u32)⟩
def zzf(zaB:Qi9)(F:Nat):=zS [(113,zz zgw ki9 zaB F)]
def zi8(zaB:Qi9)(F:Nat):FT zmy:=fun a b c d e g h l m o=>bif(zaB.ok F a b c d e g h l m)then some (.v (.int .u32 (zaB.i 0 F a b c d e g h l m)))else none
def zk8:=zi8 zaB
def zco:zXo:=mkQ (l:=zmy) zgz.o zk8
theorem zzg(zaB:Qi9)(F:Nat):HHz zgz zmy (zzf zaB F) zze [] 70 (zi8 zaB F):=hzz
theorem zzh(F:Nat)(a b c d e g h l m o:Int):KO8 (zk8 F a b c d e g h l m o) (zco.ok F a b c d e g h l m o) (zco.i 0 F a b c d e g h l m o):=ko8 _
theorem zzi(F:Nat):yc PP 70 (unS (zz zgz zmy zco F)):=
 gzz F (zzg zaB F) (zd (zzb F) zn)
def zHk:Cfg:=⟨[0,1,2,3,4,5],[],[],[]⟩
def zl8:Sg:=⟨[.v (.agg [.i,.i,.i,.i,.i,.i,.i,.i,.i,.i]),.v (.agg [.int .i32,.int .i32,.int .i32])],.v (.tup [.agg [.i,.i,.i],.bool])⟩
def zHl(jS:Qi)(zI:ztM)(F:Nat):=zS [(73,zz zga ki jS F),(110,zz zf6 zyF zI F)]
def zpc(jS:Qi)(zI:ztM)(F:Nat):FT zpz:=fun a c d e g h l m o y p s t=>bif(jS.ok F p)then let u:Int:=jS.i 0 F p;bif(jS.ok F s)then let w:Int:=jS.i 0 F s;bif(jS.ok F t)then let x:Int:=jS.i 0 F t;bif(zI.ok F a c d e g h l m o u w x)then some (.v (.tuple #[.agg #[.i (zI.i 0 F a c d e g h l m o u w x),.i (zI.i 1 F a c d e g h l m o u w x),.i (zI.i 2 F a c d e g h l m o u w x)],.bool (zI.b 3 F a c d e g h l m o u w x)]))else none else none else none else none
def zrq:=zpc jS zI
def zaj:zUg:=mkQ (l:=zpz) zl8.o zrq
theorem zHm(jS:Qi)(zI:ztM)(F:Nat):HHz zl8 zpz (zHl jS zI F) zHk [] 63 (zpc jS zI F):=hzz
theorem zHn(F:Nat)(e g h l m o p s t u a c d:Int):zkR (zrq F e g h l m o p s t u a c d) (zaj.ok F e g h l m o p s t u a c d) (zaj.i 0 F e g h l m o p s t u a c d) (zaj.i 1 F e g h l m o p s t u a c d) (zaj.i 2 F e g h l m o p s t u a c d) (zaj.b 3 F e g h l m o p s t u a c d):=zll _
theorem zHo(F:Nat):yc PP 63 (unS (zz zl8 zpz zaj F)):=
 gzz F (zHm jS zI F) (zd (zuj F) (zd (zug F) zn))
def zKY:Cfg:=⟨[0],[],[],[]⟩
def zog:Sg:=⟨[],.v (.agg [.i,.i,.i,.i,.i,.i,.i,.i,.i,.i])⟩
def zKZ(zj:Q0)(F:Nat):=zS [(59,zz zh5 k0 zj F)]
def zrr(zj:Q0)(F:Nat):FT k0:=bif(zj.ok F)then some (.v (.agg #[.i (zj.i 0 F),.i (zj.i 1 F),.i (zj.i 2 F),.i (zj.i 3 F),.i (zj.i 4 F),.i (zj.i 5 F),.i (zj.i 6 F),.i (zj.i 7 F),.i (zj.i 8 F),.i 0]))else none
def zs2:=zrr zj
def yQ:Q0:=mkQ (l:=k0) zog.o zs2
theorem zK0(zj:Q0)(F:Nat):HHz zog k0 (zKZ zj F) zKY [] 25 (zrr zj F):=hzz
theorem zK1(F:Nat):KO3 (zs2 F) (yQ.ok F) (yQ.i 0 F) (yQ.i 1 F) (yQ.i 2 F) (yQ.i 3 F) (yQ.i 4 F) (yQ.i 5 F) (yQ.i 6 F) (yQ.i 7 F) (yQ.i 8 F) (yQ.i 9 F):=ko3 _
theorem zK2(F:Nat):yc PP 25 (unS (zz zog k0 yQ F)):=
 gzz F (zK0 zj F) (zd (zv5 F) zn)
def zrs:Cfg:=⟨[0,1,2,3,4,6,7,8,9,10,11,12,13,15,16,20,31,51],[(0,[0,1,2,3,4,6,7,8,9,10,17,18,49,50,51,52,53,54,55,56,57,58,59,60,61,62,63,64,65])],[],[]⟩
def zl9:Sg:=⟨[.v (.agg [.i,.i,.i,.i,.i,.i,.i,.i,.i,.i]),.v (.agg [.int .i32,.int .i32,.int .i32]),.i],.v (.tup [.agg [.i,.i,.i,.i,.i,.i,.i,.i,.i,.i],.bool])⟩
def zrt(zaP zk:jQ)(zJ:zBI)(zD:Qi9)(F:Nat):=zS [(106,zz zl1 ki2 zaP F),(107,zz zjN ki2 zk F),(108,zz zn9 ziD zJ F),(109,zz zjO ki9 zD F)]
def zib:TS:=⟨[(0,.v (.agg [.i,.i,.i,.i,.i,.i,.i,.i,.i,.i])),(1,.v (.agg [.int .i32,.int .i32,.int .i32])),(2,.i),(3,.lp 0 (.lit 0)),(4,.lp 1 (.lit 0)),(6,.lp 2 (.lit 0)),(7,.v (.bool)),(8,.lp 3 (.lit 0)),(9,.v (.bool)),(10,.i)],[(0,⟨(.ex [.i,.i,.i,.i,.i,.i,.i,.i,.i,.i]),true⟩),(1,⟨(.ex [.v (.int .i32),.v (.int .i32),.v (.int .i32)]),true⟩),(2,⟨(.ex [.i,.i,.i,.i,.i,.i,.i,.i,.i,.i]),true⟩),(3,⟨(.ex [.i,.i,.i,.i,.i,.i,.i,.i,.i]),true⟩)],4⟩
def zxt:TS:=zib
def zdx(zaP zk:jQ)(zJ:zBI)(F:Nat)(rc ex0:FT zc4):FT zc4:=fun x0 x1 x2 x3 x4 x5 x6 x7 x8 x9 D E G w H x15 a I J K L M N O P Q T x y z U V X Y Z x35 x36 x37 x38 x39 c d e g h l m o p=>bif(decide (a<3))then bif((decide (0<=a))&&(decide (a<3)))then let v0:Nat:=0+((Int.toNat a)*1);bif((isI .i32 [.v (.int .i32 x),.v (.int .i32 y),.v (.int .i32 z)][v0]?)&&true)then let v1:Int:=iv [.v (.int .i32 x),.v (.int .i32 y),.v (.int .i32 z)][v0]?;let v2:Int:=if(-2147483647)>v1 then-2147483647 else v1;bif(zaP.ok F v2 w)then let f:Int:=zaP.i 0 F v2 w;bif(f !=0)then bif(zk.ok F a f)then let n:Int:=zk.i 0 F a f;let r:Int:=zk.i 1 F a f;let j:Int:=zk.i 2 F a f;let A:Int:=zk.i 3 F a f;let B:Int:=zk.i 4 F a f;let C:Int:=zk.i 5 F a f;let s:Int:=zk.i 6 F a f;let t:Int:=zk.i 7 F a f;let u:Int:=zk.i 8 F a f;bif(zJ.ok F c d e g h l m o p n r j A B C s t u)then let v13:Int:=zJ.i 0 F c d e g h l m o p n r j A B C s t u;let v14:Int:=zJ.i 1 F c d e g h l m o p n r j A B C s t u;let v15:Int:=zJ.i 2 F c d e g h l m o p n r j A B C s t u;let v16:Int:=zJ.i 3 F c d e g h l m o p n r j A B C s t u;let v17:Int:=zJ.i 4 F c d e g h l m o p n r j A B C s t u;let v18:Int:=zJ.i 5 F c d e g h l m o p n r j A B C s t u;let v19:Int:=zJ.i 6 F c d e g h l m o p n r j A B C s t u;let v20:Int:=zJ.i 7 F c d e g h l m o p n r j A B C s t u;let v21:Int:=zJ.i 8 F c d e g h l m o p n r j A B C s t u;bif x15 then rc x0 x1 x2 x3 x4 x5 x6 x7 x8 x9 D E G w H true (wrap .i64 (a+1)) I J K L M N O P Q T x y z U V X Y Z x35 x36 x37 x38 x39 v13 v14 v15 v16 v17 v18 v19 v20 v21 else rc x0 x1 x2 x3 x4 x5 x6 x7 x8 x9 D E G w H (zJ.b 9 F c d e g h l m o p n r j A B C s t u) (wrap .i64 (a+1)) I J K L M N O P Q T x y z U V X Y Z x35 x36 x37 x38 x39 v13 v14 v15 v16 v17 v18 v19 v20 v21 else none else none else rc x0 x1 x2 x3 x4 x5 x6 x7 x8 x9 D E G w H x15 (wrap .i64 (a+1)) I J K L M N O P Q T x y z U V X Y Z x35 x36 x37 x38 x39 c d e g h l m o p else none else none else none else ex0 x0 x1 x2 x3 x4 x5 x6 x7 x8 x9 D E G w H x15 a I J K L M N O P Q T x y z U V X Y Z x35 x36 x37 x38 x39 c d e g h l m o p
def zef:=zdx zaP zk zJ
def yL(F:Nat)(a:FT zc4):Nat->FT zc4:=lY fun b=>zef F b a
theorem zic{F n}{a}:yL F a (n+1)=zef F (yL F a n) a:=rfl
def zi9(k:Exit->VS->R):FT zc4:=cQ _ fun q=>k (.exit 0) (fS zxt q)
def zid(yL:Nat->FT zc4->Nat->FT zc4)(F:Nat):List LW:=[⟨0,zib,fun k q=>uQ _ (yL F (zi9 k) F) q⟩]
theorem zzj(F:Nat)(k:Exit->VS->R):∀n q,iQ PP (zrt zaP zk zJ zD F) zrs (zid yL F) [] 62 0 0 k n zib q=uQ _ (yL F (zi9 k) n) q:=
 lG (fun _=>by kernel_rfl) ((hzz:∀(zaP:jQ) (zk:jQ) (zJ:zBI) (zD:Qi9) (yL:Nat->FT zc4->Nat->FT zc4),LH PP (zrt zaP zk zJ zD F) zrs (zid yL F) [] 62 0 0 k zib (fun a=>zdx zaP zk zJ F a (zi9 k))) zaP zk zJ zD yL)
def zpd(zD:Qi9)(yL:Nat->FT zc4->Nat->FT zc4)(F:Nat):FT zBJ:=fun w x y z f n r j A C o p s B=>yL F (fun D E G H I J K L M N O P Q T U t V X Y Z v42 v43 v44 v45 v46 v47 u v49 v50 v51 v52 v53 v54 v55 v56 v57 v58 v59 v60 v61 a b c d e g h l m=>bif(decide (u>=15))then bif(zD.ok F a b c d e g h l m)then some (.v (.tuple #[.agg #[.i (zD.i 0 F a b c d e g h l m),.i (zD.i 1 F a b c d e g h l m),.i (zD.i 2 F a b c d e g h l m),.i (zD.i 3 F a b c d e g h l m),.i (zD.i 4 F a b c d e g h l m),.i (zD.i 5 F a b c d e g h l m),.i (zD.i 6 F a b c d e g h l m),.i (zD.i 7 F a b c d e g h l m),.i (zD.i 8 F a b c d e g h l m),.i 0],.bool t]))else none else some (.v (.tuple #[.agg #[.i a,.i b,.i c,.i d,.i e,.i g,.i h,.i l,.i m,.i (wrap .i64 (u+1))],.bool t]))) F w x y z f n r j A C o p s B false false 0 w x y z f n r j A C o p s 0 0 0 0 0 0 0 0 0 0 w x y z f n r j A
def zma:=zpd zD yL
def yp:zXp:=mkQ (l:=zBJ) zl9.o zma
theorem zHp(zaP zk:jQ)(zJ:zBI)(zD:Qi9)(yL:Nat->FT zc4->Nat->FT zc4)(F:Nat):HHz zl9 zBJ (zrt zaP zk zJ zD F) zrs (zid yL F) 62 (zpd zD yL F):=hzz
theorem zHq(F:Nat)(g h l m o p s t u v a c d e:Int):zWf (zma F g h l m o p s t u v a c d e) (yp.ok F g h l m o p s t u v a c d e) (yp.i 0 F g h l m o p s t u v a c d e) (yp.i 1 F g h l m o p s t u v a c d e) (yp.i 2 F g h l m o p s t u v a c d e) (yp.i 3 F g h l m o p s t u v a c d e) (yp.i 4 F g h l m o p s t u v a c d e) (yp.i 5 F g h l m o p s t u v a c d e) (yp.i 6 F g h l m o p s t u v a c d e) (yp.i 7 F g h l m o p s t u v a c d e) (yp.i 8 F g h l m o p s t u v a c d e) (yp.i 9 F g h l m o p s t u v a c d e) (yp.b 10 F g h l m o p s t u v a c d e):=zXy _
theorem zHr(F:Nat):yc PP 62 (unS (zz zl9 zBJ yp F)):=
 gzl (W:=zid yL) F (zHp zaP zk zJ zD yL F) (zd (zHa F) (zd (zCT F) (zd (zKD F) (zd (zC2 F) zn)))) (jP [(0,zaK PP 62 0)] kfz (zd (jZ (zid yL F) rfl (yn (fun _ k q=>Le.ofEq (zzj F k F q).symm) jY)) zn))
def zBa:Cfg:=⟨[0,1,2,4,10],[],[],[]⟩
def zie:Sg:=⟨[.v (.agg [.i,.i,.i,.i,.i,.i,.i,.i,.i,.i]),.i],.v (.agg [.i,.i,.i])⟩
def zBb(F:Nat):=zS []
def zdj(F:Nat):FT zpA:=fun b c d e g h l m o p a=>bif(decide (a<0))then some (.v (.agg #[.i 0,.i 0,.i 0]))else bif(decide (a>2))then some (.v (.agg #[.i 0,.i 0,.i 0]))else bif((decide (0<=a))&&(decide (a<3)))then let s:Nat:=0+((Int.toNat a)*1);bif((isI .i64 [.v (.i b),.v (.i c),.v (.i d),.v (.i e),.v (.i g),.v (.i h),.v (.i l),.v (.i m),.v (.i o),.v (.i p)][s]?)&&true)then bif((decide (0<=a))&&(decide (a<3)))then let t:Nat:=3+((Int.toNat a)*1);bif((isI .i64 [.v (.i b),.v (.i c),.v (.i d),.v (.i e),.v (.i g),.v (.i h),.v (.i l),.v (.i m),.v (.i o),.v (.i p)][t]?)&&true)then bif((decide (0<=a))&&(decide (a<3)))then let u:Nat:=6+((Int.toNat a)*1);bif((isI .i64 [.v (.i b),.v (.i c),.v (.i d),.v (.i e),.v (.i g),.v (.i h),.v (.i l),.v (.i m),.v (.i o),.v (.i p)][u]?)&&true)then some (.v (.agg #[.i (iv [.v (.i b),.v (.i c),.v (.i d),.v (.i e),.v (.i g),.v (.i h),.v (.i l),.v (.i m),.v (.i o),.v (.i p)][s]?),.i (iv [.v (.i b),.v (.i c),.v (.i d),.v (.i e),.v (.i g),.v (.i h),.v (.i l),.v (.i m),.v (.i o),.v (.i p)][t]?),.i (iv [.v (.i b),.v (.i c),.v (.i d),.v (.i e),.v (.i g),.v (.i h),.v (.i l),.v (.i m),.v (.i o),.v (.i p)][u]?)]))else none else none else none else none else none else none
def zan:zBK:=mkQ (l:=zpA) zie.o zdj
theorem zBc(F:Nat):HHz zie zpA (zBb F) zBa [] 115 (zdj F):=hzz
theorem zif(F:Nat)(b c d e g h l m o p a:Int):zRQ (zdj F b c d e g h l m o p a) (zan.ok F b c d e g h l m o p a) (zan.i 0 F b c d e g h l m o p a) (zan.i 1 F b c d e g h l m o p a) (zan.i 2 F b c d e g h l m o p a):=zUj _
theorem zBd(F:Nat):yc PP 115 (unS (zz zie zpA zan F)):=
 gzz F (zBc F) (zn)
theorem zQU(F:Nat)(hF:200<=F){x:Int}(hx:U32 x):zk.ok F 0 x=true/\zk.i 0 F 0 x=(abM 0 x).a0/\zk.i 1 F 0 x=(abM 0 x).a1/\zk.i 2 F 0 x=(abM 0 x).a2/\zk.i 3 F 0 x=(abM 0 x).a3/\zk.i 4 F 0 x=(abM 0 x).a4/\zk.i 5 F 0 x=(abM 0 x).a5/\zk.i 6 F 0 x=(abM 0 x).a6/\zk.i 7 F 0 x=(abM 0 x).a7/\zk.i 8 F 0 x=(abM 0 x).a8:=by
 obtain⟨h,h0,h1,h2,h3,h4,h5,h6,h7,h8,_⟩:=zQI F hF hx;exact⟨h,h0,h1,h2,h3,h4,h5,h6,h7,h8⟩
theorem zQV(F:Nat)(hF:200<=F){x:Int}(hx:U32 x):zk.ok F 1 x=true/\zk.i 0 F 1 x=(abM 1 x).a0/\zk.i 1 F 1 x=(abM 1 x).a1/\zk.i 2 F 1 x=(abM 1 x).a2/\zk.i 3 F 1 x=(abM 1 x).a3/\zk.i 4 F 1 x=(abM 1 x).a4/\zk.i 5 F 1 x=(abM 1 x).a5/\zk.i 6 F 1 x=(abM 1 x).a6/\zk.i 7 F 1 x=(abM 1 x).a7/\zk.i 8 F 1 x=(abM 1 x).a8:=by
 obtain⟨h,h0,h1,h2,h3,h4,h5,h6,h7,h8,_⟩:=zQK F hF hx;exact⟨h,h0,h1,h2,h3,h4,h5,h6,h7,h8⟩
theorem zQW(F:Nat)(hF:200<=F){x:Int}(hx:U32 x):zk.ok F 2 x=true/\zk.i 0 F 2 x=(abM 2 x).a0/\zk.i 1 F 2 x=(abM 2 x).a1/\zk.i 2 F 2 x=(abM 2 x).a2/\zk.i 3 F 2 x=(abM 2 x).a3/\zk.i 4 F 2 x=(abM 2 x).a4/\zk.i 5 F 2 x=(abM 2 x).a5/\zk.i 6 F 2 x=(abM 2 x).a6/\zk.i 7 F 2 x=(abM 2 x).a7/\zk.i 8 F 2 x=(abM 2 x).a8:=by
 obtain⟨h,h0,h1,h2,h3,h4,h5,h6,h7,h8,_⟩:=zQM F hF hx;exact⟨h,h0,h1,h2,h3,h4,h5,h6,h7,h8⟩
theorem zNR(F:Nat)(hF:200<=F){A B:Mt}(hA:MI A)(hB:MI B):zJ.ok F A.a0 A.a1 A.a2 A.a3 A.a4 A.a5 A.a6 A.a7 A.a8 B.a0 B.a1 B.a2 B.a3 B.a4 B.a5 B.a6 B.a7 B.a8=true/\zJ.i 0 F A.a0 A.a1 A.a2 A.a3 A.a4 A.a5 A.a6 A.a7 A.a8 B.a0 B.a1 B.a2 B.a3 B.a4 B.a5 B.a6 B.a7 B.a8=(zpT A B).a0/\zJ.i 1 F A.a0 A.a1 A.a2 A.a3 A.a4 A.a5 A.a6 A.a7 A.a8 B.a0 B.a1 B.a2 B.a3 B.a4 B.a5 B.a6 B.a7 B.a8=(zpT A B).a1/\zJ.i 2 F A.a0 A.a1 A.a2 A.a3 A.a4 A.a5 A.a6 A.a7 A.a8 B.a0 B.a1 B.a2 B.a3 B.a4 B.a5 B.a6 B.a7 B.a8=(zpT A B).a2/\zJ.i 3 F A.a0 A.a1 A.a2 A.a3 A.a4 A.a5 A.a6 A.a7 A.a8 B.a0 B.a1 B.a2 B.a3 B.a4 B.a5 B.a6 B.a7 B.a8=(zpT A B).a3/\zJ.i 4 F A.a0 A.a1 A.a2 A.a3 A.a4 A.a5 A.a6 A.a7 A.a8 B.a0 B.a1 B.a2 B.a3 B.a4 B.a5 B.a6 B.a7 B.a8=(zpT A B).a4/\zJ.i 5 F A.a0 A.a1 A.a2 A.a3 A.a4 A.a5 A.a6 A.a7 A.a8 B.a0 B.a1 B.a2 B.a3 B.a4 B.a5 B.a6 B.a7 B.a8=(zpT A B).a5/\zJ.i 6 F A.a0 A.a1 A.a2 A.a3 A.a4 A.a5 A.a6 A.a7 A.a8 B.a0 B.a1 B.a2 B.a3 B.a4 B.a5 B.a6 B.a7 B.a8=(zpT A B).a6/\zJ.i 7 F A.a0 A.a1 A.a2 A.a3 A.a4 A.a5 A.a6 A.a7 A.a8 B.a0 B.a1 B.a2 B.a3 B.a4 B.a5 B.a6 B.a7 B.a8=(zpT A B).a7/\zJ.i 8 F A.a0 A.a1 A.a2 A.a3 A.a4 A.a5 A.a6 A.a7 A.a8 B.a0 B.a1 B.a2 B.a3 B.a4 B.a5 B.a6 B.a7 B.a8=(zpT A B).a8/\zJ.b 9 F A.a0 A.a1 A.a2 A.a3 A.a4 A.a5 A.a6 A.a7 A.a8 B.a0 B.a1 B.a2 B.a3 B.a4 B.a5 B.a6 B.a7 B.a8=zWA A B:=by
 obtain⟨x0,x1,x2,x3,x4,x5,x6,x7,x8⟩:=hA;obtain⟨y0,y1,y2,y3,y4,y5,y6,y7,y8⟩:=hB;exact zUJ F hF x0 x1 x2 x3 x4 x5 x6 x7 x8 y0 y1 y2 y3 y4 y5 y6 y7 y8
theorem zSS(F:Nat)(hF:200<=F){A:Mt}(hA:MI A):zD.ok F A.a0 A.a1 A.a2 A.a3 A.a4 A.a5 A.a6 A.a7 A.a8=true/\zD.i 0 F A.a0 A.a1 A.a2 A.a3 A.a4 A.a5 A.a6 A.a7 A.a8=(upM A).a0/\zD.i 1 F A.a0 A.a1 A.a2 A.a3 A.a4 A.a5 A.a6 A.a7 A.a8=(upM A).a1/\zD.i 2 F A.a0 A.a1 A.a2 A.a3 A.a4 A.a5 A.a6 A.a7 A.a8=(upM A).a2/\zD.i 3 F A.a0 A.a1 A.a2 A.a3 A.a4 A.a5 A.a6 A.a7 A.a8=(upM A).a3/\zD.i 4 F A.a0 A.a1 A.a2 A.a3 A.a4 A.a5 A.a6 A.a7 A.a8=(upM A).a4/\zD.i 5 F A.a0 A.a1 A.a2 A.a3 A.a4 A.a5 A.a6 A.a7 A.a8=(upM A).a5/\zD.i 6 F A.a0 A.a1 A.a2 A.a3 A.a4 A.a5 A.a6 A.a7 A.a8=(upM A).a6/\zD.i 7 F A.a0 A.a1 A.a2 A.a3 A.a4 A.a5 A.a6 A.a7 A.a8=(upM A).a7/\zD.i 8 F A.a0 A.a1 A.a2 A.a3 A.a4 A.a5 A.a6 A.a7 A.a8=(upM A).a8:=by
 obtain⟨x0,x1,x2,x3,x4,x5,x6,x7,x8⟩:=hA;obtain⟨h,h0,h1,h2,h3,h4,h5,h6,h7,h8,_⟩:=zC3 F hF x0 x1 x2 x3 x4 x5 x6 x7 x8;exact⟨h,h0,h1,h2,h3,h4,h5,h6,h7,h8⟩
theorem zHs(F:Nat)(hF:200<=F){a:Int}(n:Int)(ha:I32 a):zaP.ok F a n=true/\zaP.i 0 F a n=zna (a*tk n):=zG9 F _ _ (zUK F hF ha)
theorem zXV(F:Nat)(hF:200<=F)(ex)(G:Nat)(x0 x1 x2 x3 x4 x5 x6 x7 x8 x9 x10 x11 x12:Int)(x14:Bool)(x17 x18 x19 x20 x21 x22 x23 x24 x25 x26 x30 x31 x32 x33 x34 x35 x36 x37 x38 x39:Int){t r0 r1 r2:Int}(hr:I32 r0)(any:Bool){M:Mt}(hM:MI M):
 yL F ex (G+1) x0 x1 x2 x3 x4 x5 x6 x7 x8 x9 x10 x11 x12 t x14 any 0 x17 x18 x19 x20 x21 x22 x23 x24 x25 x26 r0 r1 r2 x30 x31 x32 x33 x34 x35 x36 x37 x38 x39 M.a0 M.a1 M.a2 M.a3 M.a4 M.a5 M.a6 M.a7 M.a8=yL F ex G x0 x1 x2 x3 x4 x5 x6 x7 x8 x9 x10 x11 x12 t x14 (any||goK M 0 (yv r0 t)) 1 x17 x18 x19 x20 x21 x22 x23 x24 x25 x26 r0 r1 r2 x30 x31 x32 x33 x34 x35 x36 x37 x38 x39 (goM M 0 (yv r0 t)).a0 (goM M 0 (yv r0 t)).a1 (goM M 0 (yv r0 t)).a2 (goM M 0 (yv r0 t)).a3 (goM M 0 (yv r0 t)).a4 (goM M 0 (yv r0 t)).a5 (goM M 0 (yv r0 t)).a6 (goM M 0 (yv r0 t)).a7 (goM M 0 (yv r0 t)).a8:=by
 have w:wrap .i64 (0+1)=1:=dcz;obtain⟨t1,t2⟩:=zHs F hF t (zxs hr);have hb:=zQT r0 t;rw [zic];unfold zef zdx;dsimp only;refine bp rfl (bp rfl (bp rfl ?_));rw [show(iv [VV.v (.int .i32 r0),.v (.int .i32 r1),.v (.int .i32 r2)][0+Int.toNat 0*1]?)=r0 from rfl,show(if(-2147483647)>r0 then(-2147483647)else r0)=zne r0 from rfl,w];refine bp t1 ?_;rw [t2,show zna (zne r0*tk t)=yv r0 t from rfl];by_cases h0:yv r0 t=0
 ·refine bn (by rw [h0];rfl) ?_
  unfold goM goK;rw [if_pos h0,if_pos h0,Bool.or_false]
 ·obtain⟨a,a0,a1,a2,a3,a4,a5,a6,a7,a8⟩:=zQU F hF (x:=yv r0 t) hb
  obtain⟨m,m0,m1,m2,m3,m4,m5,m6,m7,m8,m9⟩:=zNR F hF hM (zEk 0 (yv r0 t));refine bp (by simpa using h0) (bp a ?_);rw [a0,a1,a2,a3,a4,a5,a6,a7,a8];refine bp m ?_;rw [m0,m1,m2,m3,m4,m5,m6,m7,m8,m9];unfold goM goK;rw [if_neg h0,if_neg h0];cases any
  ·rfl
  ·rfl
theorem zXW(F:Nat)(hF:200<=F)(ex)(G:Nat)(x0 x1 x2 x3 x4 x5 x6 x7 x8 x9 x10 x11 x12:Int)(x14:Bool)(x17 x18 x19 x20 x21 x22 x23 x24 x25 x26 x30 x31 x32 x33 x34 x35 x36 x37 x38 x39:Int){t r0 r1 r2:Int}(hr:I32 r1)(any:Bool){M:Mt}(hM:MI M):
 yL F ex (G+1) x0 x1 x2 x3 x4 x5 x6 x7 x8 x9 x10 x11 x12 t x14 any 1 x17 x18 x19 x20 x21 x22 x23 x24 x25 x26 r0 r1 r2 x30 x31 x32 x33 x34 x35 x36 x37 x38 x39 M.a0 M.a1 M.a2 M.a3 M.a4 M.a5 M.a6 M.a7 M.a8=yL F ex G x0 x1 x2 x3 x4 x5 x6 x7 x8 x9 x10 x11 x12 t x14 (any||goK M 1 (yv r1 t)) 2 x17 x18 x19 x20 x21 x22 x23 x24 x25 x26 r0 r1 r2 x30 x31 x32 x33 x34 x35 x36 x37 x38 x39 (goM M 1 (yv r1 t)).a0 (goM M 1 (yv r1 t)).a1 (goM M 1 (yv r1 t)).a2 (goM M 1 (yv r1 t)).a3 (goM M 1 (yv r1 t)).a4 (goM M 1 (yv r1 t)).a5 (goM M 1 (yv r1 t)).a6 (goM M 1 (yv r1 t)).a7 (goM M 1 (yv r1 t)).a8:=by
 have w:wrap .i64 (1+1)=2:=dcz;obtain⟨t1,t2⟩:=zHs F hF t (zxs hr);have hb:=zQT r1 t;rw [zic];unfold zef zdx;dsimp only;refine bp rfl (bp rfl (bp rfl ?_));rw [show(iv [VV.v (.int .i32 r0),.v (.int .i32 r1),.v (.int .i32 r2)][0+Int.toNat 1*1]?)=r1 from rfl,show(if(-2147483647)>r1 then(-2147483647)else r1)=zne r1 from rfl,w];refine bp t1 ?_;rw [t2,show zna (zne r1*tk t)=yv r1 t from rfl];by_cases h0:yv r1 t=0
 ·refine bn (by rw [h0];rfl) ?_
  unfold goM goK;rw [if_pos h0,if_pos h0,Bool.or_false]
 ·obtain⟨a,a0,a1,a2,a3,a4,a5,a6,a7,a8⟩:=zQV F hF (x:=yv r1 t) hb
  obtain⟨m,m0,m1,m2,m3,m4,m5,m6,m7,m8,m9⟩:=zNR F hF hM (zEk 1 (yv r1 t));refine bp (by simpa using h0) (bp a ?_);rw [a0,a1,a2,a3,a4,a5,a6,a7,a8];refine bp m ?_;rw [m0,m1,m2,m3,m4,m5,m6,m7,m8,m9];unfold goM goK;rw [if_neg h0,if_neg h0];cases any
  ·rfl
  ·rfl
theorem zXX(F:Nat)(hF:200<=F)(ex)(G:Nat)(x0 x1 x2 x3 x4 x5 x6 x7 x8 x9 x10 x11 x12:Int)(x14:Bool)(x17 x18 x19 x20 x21 x22 x23 x24 x25 x26 x30 x31 x32 x33 x34 x35 x36 x37 x38 x39:Int){t r0 r1 r2:Int}(hr:I32 r2)(any:Bool){M:Mt}(hM:MI M):
 yL F ex (G+1) x0 x1 x2 x3 x4 x5 x6 x7 x8 x9 x10 x11 x12 t x14 any 2 x17 x18 x19 x20 x21 x22 x23 x24 x25 x26 r0 r1 r2 x30 x31 x32 x33 x34 x35 x36 x37 x38 x39 M.a0 M.a1 M.a2 M.a3 M.a4 M.a5 M.a6 M.a7 M.a8=yL F ex G x0 x1 x2 x3 x4 x5 x6 x7 x8 x9 x10 x11 x12 t x14 (any||goK M 2 (yv r2 t)) 3 x17 x18 x19 x20 x21 x22 x23 x24 x25 x26 r0 r1 r2 x30 x31 x32 x33 x34 x35 x36 x37 x38 x39 (goM M 2 (yv r2 t)).a0 (goM M 2 (yv r2 t)).a1 (goM M 2 (yv r2 t)).a2 (goM M 2 (yv r2 t)).a3 (goM M 2 (yv r2 t)).a4 (goM M 2 (yv r2 t)).a5 (goM M 2 (yv r2 t)).a6 (goM M 2 (yv r2 t)).a7 (goM M 2 (yv r2 t)).a8:=by
 have w:wrap .i64 (2+1)=3:=dcz;obtain⟨t1,t2⟩:=zHs F hF t (zxs hr);have hb:=zQT r2 t;rw [zic];unfold zef zdx;dsimp only;refine bp rfl (bp rfl (bp rfl ?_));rw [show(iv [VV.v (.int .i32 r0),.v (.int .i32 r1),.v (.int .i32 r2)][0+Int.toNat 2*1]?)=r2 from rfl,show(if(-2147483647)>r2 then(-2147483647)else r2)=zne r2 from rfl,w];refine bp t1 ?_;rw [t2,show zna (zne r2*tk t)=yv r2 t from rfl];by_cases h0:yv r2 t=0
 ·refine bn (by rw [h0];rfl) ?_
  unfold goM goK;rw [if_pos h0,if_pos h0,Bool.or_false]
 ·obtain⟨a,a0,a1,a2,a3,a4,a5,a6,a7,a8⟩:=zQW F hF (x:=yv r2 t) hb
  obtain⟨m,m0,m1,m2,m3,m4,m5,m6,m7,m8,m9⟩:=zNR F hF hM (zEk 2 (yv r2 t));refine bp (by simpa using h0) (bp a ?_);rw [a0,a1,a2,a3,a4,a5,a6,a7,a8];refine bp m ?_;rw [m0,m1,m2,m3,m4,m5,m6,m7,m8,m9];unfold goM goK;rw [if_neg h0,if_neg h0];cases any
  ·rfl
  ·rfl
theorem zUM(F:Nat)(hF:200<=F){a:Att}(hM:MI a.m)(hn:a.n<=9223372036854775807/\ -9223372036854775808<=a.n){r0 r1 r2 t:Int}(h0:I32 r0)(h1:I32 r1)(h2:I32 r2):
 zma F a.m.a0 a.m.a1 a.m.a2 a.m.a3 a.m.a4 a.m.a5 a.m.a6 a.m.a7 a.m.a8 a.n r0 r1 r2 t=some (.v (.tuple #[.agg #[.i (zaF a (yv r0 t) (yv r1 t) (yv r2 t)).m.a0,.i (zaF a (yv r0 t) (yv r1 t) (yv r2 t)).m.a1,.i (zaF a (yv r0 t) (yv r1 t) (yv r2 t)).m.a2,.i (zaF a (yv r0 t) (yv r1 t) (yv r2 t)).m.a3,.i (zaF a (yv r0 t) (yv r1 t) (yv r2 t)).m.a4,.i (zaF a (yv r0 t) (yv r1 t) (yv r2 t)).m.a5,.i (zaF a (yv r0 t) (yv r1 t) (yv r2 t)).m.a6,.i (zaF a (yv r0 t) (yv r1 t) (yv r2 t)).m.a7,.i (zaF a (yv r0 t) (yv r1 t) (yv r2 t)).m.a8,.i (zaF a (yv r0 t) (yv r1 t) (yv r2 t)).n],.bool (zri a.m (yv r0 t) (yv r1 t) (yv r2 t))])):=by
 obtain⟨G,hG⟩:∃G,F=G+4:=⟨F-4,zc⟩;have g0:=zwi hM 0 (yv r0 t);have g1:=zwi g0 1 (yv r1 t);have g2:=zwi g1 2 (yv r2 t);unfold zma zpd;rw [show yL F _ F=yL F _ (G+4)from congrArg (yL F _) hG];rw [zXV F hF _ (G+3) (hr:=h0) (any:=false) (hM:=hM),zXW F hF _ (G+2) (hr:=h1) (hM:=g0),zXX F hF _ (G+1) (hr:=h2) (hM:=g1),zic];unfold zef zdx;refine bn rfl ?_;have ek:(false||goK a.m 0 (yv r0 t)||goK (goM a.m 0 (yv r0 t)) 1 (yv r1 t)||goK (goM (goM a.m 0 (yv r0 t)) 1 (yv r1 t)) 2 (yv r2 t))=zri a.m (yv r0 t) (yv r1 t) (yv r2 t):=by rw [Bool.false_or];rfl
 rw [ek];have hg:goM (goM (goM a.m 0 (yv r0 t)) 1 (yv r1 t)) 2 (yv r2 t)=go3 a.m (yv r0 t) (yv r1 t) (yv r2 t):=rfl;rw [hg]at g2⊢;generalize hK:zri a.m (yv r0 t) (yv r1 t) (yv r2 t)=K;unfold zaF;generalize go3 a.m (yv r0 t) (yv r1 t) (yv r2 t)=B at*
 by_cases hc:15<=a.n
 ·rw [if_pos hc]
  obtain⟨m,m0,m1,m2,m3,m4,m5,m6,m7,m8⟩:=zSS F hF g2;refine bp (dt hc) (bp m ?_);rw [m0,m1,m2,m3,m4,m5,m6,m7,m8]
 ·rw [if_neg hc]
  refine bn (df zc) ?_;rw [zH (by unfold zr;omega)]
theorem zUN(F:Nat)(hF:200<=F){a:Att}(hM:MI a.m)(hn:a.n<=9223372036854775807/\ -9223372036854775808<=a.n){r0 r1 r2 t:Int}(h0:I32 r0)(h1:I32 r1)(h2:I32 r2):yp.ok F a.m.a0 a.m.a1 a.m.a2 a.m.a3 a.m.a4 a.m.a5 a.m.a6 a.m.a7 a.m.a8 a.n r0 r1 r2 t=true/\yp.i 0 F a.m.a0 a.m.a1 a.m.a2 a.m.a3 a.m.a4 a.m.a5 a.m.a6 a.m.a7 a.m.a8 a.n r0 r1 r2 t=(zaF a (yv r0 t) (yv r1 t) (yv r2 t)).m.a0/\yp.i 1 F a.m.a0 a.m.a1 a.m.a2 a.m.a3 a.m.a4 a.m.a5 a.m.a6 a.m.a7 a.m.a8 a.n r0 r1 r2 t=(zaF a (yv r0 t) (yv r1 t) (yv r2 t)).m.a1/\yp.i 2 F a.m.a0 a.m.a1 a.m.a2 a.m.a3 a.m.a4 a.m.a5 a.m.a6 a.m.a7 a.m.a8 a.n r0 r1 r2 t=(zaF a (yv r0 t) (yv r1 t) (yv r2 t)).m.a2/\yp.i 3 F a.m.a0 a.m.a1 a.m.a2 a.m.a3 a.m.a4 a.m.a5 a.m.a6 a.m.a7 a.m.a8 a.n r0 r1 r2 t=(zaF a (yv r0 t) (yv r1 t) (yv r2 t)).m.a3/\yp.i 4 F a.m.a0 a.m.a1 a.m.a2 a.m.a3 a.m.a4 a.m.a5 a.m.a6 a.m.a7 a.m.a8 a.n r0 r1 r2 t=(zaF a (yv r0 t) (yv r1 t) (yv r2 t)).m.a4/\yp.i 5 F a.m.a0 a.m.a1 a.m.a2 a.m.a3 a.m.a4 a.m.a5 a.m.a6 a.m.a7 a.m.a8 a.n r0 r1 r2 t=(zaF a (yv r0 t) (yv r1 t) (yv r2 t)).m.a5/\yp.i 6 F a.m.a0 a.m.a1 a.m.a2 a.m.a3 a.m.a4 a.m.a5 a.m.a6 a.m.a7 a.m.a8 a.n r0 r1 r2 t=(zaF a (yv r0 t) (yv r1 t) (yv r2 t)).m.a6/\yp.i 7 F a.m.a0 a.m.a1 a.m.a2 a.m.a3 a.m.a4 a.m.a5 a.m.a6 a.m.a7 a.m.a8 a.n r0 r1 r2 t=(zaF a (yv r0 t) (yv r1 t) (yv r2 t)).m.a7/\yp.i 8 F a.m.a0 a.m.a1 a.m.a2 a.m.a3 a.m.a4 a.m.a5 a.m.a6 a.m.a7 a.m.a8 a.n r0 r1 r2 t=(zaF a (yv r0 t) (yv r1 t) (yv r2 t)).m.a8/\yp.i 9 F a.m.a0 a.m.a1 a.m.a2 a.m.a3 a.m.a4 a.m.a5 a.m.a6 a.m.a7 a.m.a8 a.n r0 r1 r2 t=(zaF a (yv r0 t) (yv r1 t) (yv r2 t)).n/\yp.b 10 F a.m.a0 a.m.a1 a.m.a2 a.m.a3 a.m.a4 a.m.a5 a.m.a6 a.m.a7 a.m.a8 a.n r0 r1 r2 t=zri a.m (yv r0 t) (yv r1 t) (yv r2 t):=zHq F _ _ _ _ _ _ _ _ _ _ _ _ _ _ (zUM F hF hM hn h0 h1 h2)
def wid(x:Int):Int:=x*65536
theorem zoh{x:Int}(h:I32 x):zr (wid x):=by unfold wid;unfold I32 at h;unfold zr;omega
theorem znh(F:Nat){x:Int}(h:I32 x):jR.ok F x=true/\jR.i 0 F x=wid x:=by
 refine zDs F _ ?_;unfold zjV wid;unfold I32 at h;rw [zH (x:=x) (by unfold zr;omega),zH (by unfold zr;omega)]
theorem zwj(F:Nat){x:Int}(h:I32 x):jS.ok F x=true/\jS.i 0 F x=wid x:=by
 refine zDx F _ ?_;unfold zjW wid;unfold I32 at h;rw [zH (x:=x) (by unfold zr;omega),zH (by unfold zr;omega),Int.mul_comm]
theorem zUO(F:Nat)(hF:200<=F){a:Att}(hM:MI a.m){v0 v1 v2:Int}(h0:I32 v0)(h1:I32 v1)(h2:I32 v2):∃z0 z1 z2:Int,∃c:Bool,(zba.ok F a.m.a0 a.m.a1 a.m.a2 a.m.a3 a.m.a4 a.m.a5 a.m.a6 a.m.a7 a.m.a8 a.n v0 v1 v2=true/\zba.i 0 F a.m.a0 a.m.a1 a.m.a2 a.m.a3 a.m.a4 a.m.a5 a.m.a6 a.m.a7 a.m.a8 a.n v0 v1 v2=z0/\zba.i 1 F a.m.a0 a.m.a1 a.m.a2 a.m.a3 a.m.a4 a.m.a5 a.m.a6 a.m.a7 a.m.a8 a.n v0 v1 v2=z1/\zba.i 2 F a.m.a0 a.m.a1 a.m.a2 a.m.a3 a.m.a4 a.m.a5 a.m.a6 a.m.a7 a.m.a8 a.n v0 v1 v2=z2/\zba.b 3 F a.m.a0 a.m.a1 a.m.a2 a.m.a3 a.m.a4 a.m.a5 a.m.a6 a.m.a7 a.m.a8 a.n v0 v1 v2=c)/\zaj.ok F a.m.a0 a.m.a1 a.m.a2 a.m.a3 a.m.a4 a.m.a5 a.m.a6 a.m.a7 a.m.a8 a.n v0 v1 v2=true/\zaj.i 0 F a.m.a0 a.m.a1 a.m.a2 a.m.a3 a.m.a4 a.m.a5 a.m.a6 a.m.a7 a.m.a8 a.n v0 v1 v2=z0/\zaj.i 1 F a.m.a0 a.m.a1 a.m.a2 a.m.a3 a.m.a4 a.m.a5 a.m.a6 a.m.a7 a.m.a8 a.n v0 v1 v2=z1/\zaj.i 2 F a.m.a0 a.m.a1 a.m.a2 a.m.a3 a.m.a4 a.m.a5 a.m.a6 a.m.a7 a.m.a8 a.n v0 v1 v2=z2/\zaj.b 3 F a.m.a0 a.m.a1 a.m.a2 a.m.a3 a.m.a4 a.m.a5 a.m.a6 a.m.a7 a.m.a8 a.n v0 v1 v2=c:=by
 obtain⟨i0,i1,i2,i3,i4,i5,i6,i7,i8⟩:=hM;obtain⟨p,p0,p1,p2,p3⟩:=zsW F hF i0 i1 i2 i3 i4 i5 i6 i7 i8 (zoh h0) (zoh h1) (zoh h2);obtain⟨q,q0,q1,q2,q3⟩:=zv7 F hF i0 i1 i2 i3 i4 i5 i6 i7 i8 (zoh h0) (zoh h1) (zoh h2);refine⟨_,_,_,_,zA9 F _ _ _ _ _ _ _ _ _ _ _ _ _ (z0:=zB.i 0 F a.m.a0 a.m.a1 a.m.a2 a.m.a3 a.m.a4 a.m.a5 a.m.a6 a.m.a7 a.m.a8 (wid v0) (wid v1) (wid v2)) (z1:=zB.i 1 F a.m.a0 a.m.a1 a.m.a2 a.m.a3 a.m.a4 a.m.a5 a.m.a6 a.m.a7 a.m.a8 (wid v0) (wid v1) (wid v2)) (z2:=zB.i 2 F a.m.a0 a.m.a1 a.m.a2 a.m.a3 a.m.a4 a.m.a5 a.m.a6 a.m.a7 a.m.a8 (wid v0) (wid v1) (wid v2)) (z3:=zB.b 3 F a.m.a0 a.m.a1 a.m.a2 a.m.a3 a.m.a4 a.m.a5 a.m.a6 a.m.a7 a.m.a8 (wid v0) (wid v1) (wid v2)) ?_,zHn F _ _ _ _ _ _ _ _ _ _ _ _ _ ?_⟩
 ·unfold zrp zof
  obtain⟨G,hG⟩:∃G,F=G+4:=⟨F-4,zc⟩;have w0:wrap .i64 (0+1)=1:=dcz;have w1:wrap .i64 (1+1)=2:=dcz;have w2:wrap .i64 (2+1)=3:=dcz;obtain⟨s0,t0⟩:=znh F h0;obtain⟨s1,t1⟩:=znh F h1;obtain⟨s2,t2⟩:=znh F h2;rw [show jX F _ F=jX F _ (G+4)from congrArg (jX F _) hG];rw [zdO];unfold zcB zcd;dsimp only;refine bp rfl (bp rfl ?_);rw [show(iv [VV.v (.int .i32 v0),.v (.int .i32 v1),.v (.int .i32 v2)][Int.toNat 0*1]?)=v0 from rfl];refine bp s0 (bp rfl (bp rfl ?_));rw [t0,w0];rw [zdO];unfold zcB zcd;dsimp only;refine bp rfl (bp rfl ?_);rw [show(iv [VV.v (.int .i32 v0),.v (.int .i32 v1),.v (.int .i32 v2)][Int.toNat 1*1]?)=v1 from rfl]
  refine bp s1 (bp rfl (bp rfl ?_));rw [t1,w1];rw [zdO];unfold zcB zcd;dsimp only;refine bp rfl (bp rfl ?_);rw [show(iv [VV.v (.int .i32 v0),.v (.int .i32 v1),.v (.int .i32 v2)][Int.toNat 2*1]?)=v2 from rfl];refine bp s2 (bp rfl (bp rfl ?_));rw [t2,w2];rw [zdO];unfold zcB zcd;dsimp only;exact bn rfl (bp rfl (bp p rfl))
 ·unfold zrq zpc
  dsimp only;obtain⟨s0,t0⟩:=zwj F h0;obtain⟨s1,t1⟩:=zwj F h1;obtain⟨s2,t2⟩:=zwj F h2;rw [t0,t1,t2];refine bp s0 (bp s1 (bp s2 (bp q ?_)));rw [p0,p1,p2,p3,q0,q1,q2,q3]
theorem zHt(F:Nat)(hF:200<=F){a:Att}(hM:MI a.m):zco.ok F a.m.a0 a.m.a1 a.m.a2 a.m.a3 a.m.a4 a.m.a5 a.m.a6 a.m.a7 a.m.a8 a.n=true/\zco.i 0 F a.m.a0 a.m.a1 a.m.a2 a.m.a3 a.m.a4 a.m.a5 a.m.a6 a.m.a7 a.m.a8 a.n=zcQ a.m.a3 a.m.a0:=by
 refine zzh F _ _ _ _ _ _ _ _ _ _ ?_;unfold zk8 zi8;obtain⟨h,k⟩:=zND F hF (a1:=a.m.a1) (a2:=a.m.a2) (a4:=a.m.a4) (a5:=a.m.a5) (a6:=a.m.a6) (a7:=a.m.a7) (a8:=a.m.a8) hM.1 hM.2.2.2.1;refine bp h ?_;rw [k]
theorem zST(F:Nat)(hF:200<=F)(A:Mt)(n k:Int):∃z0 z1 z2:Int,(za5.ok F A.a0 A.a1 A.a2 A.a3 A.a4 A.a5 A.a6 A.a7 A.a8 n k=true/\za5.i 0 F A.a0 A.a1 A.a2 A.a3 A.a4 A.a5 A.a6 A.a7 A.a8 n k=z0/\za5.i 1 F A.a0 A.a1 A.a2 A.a3 A.a4 A.a5 A.a6 A.a7 A.a8 n k=z1/\za5.i 2 F A.a0 A.a1 A.a2 A.a3 A.a4 A.a5 A.a6 A.a7 A.a8 n k=z2)/\zan.ok F A.a0 A.a1 A.a2 A.a3 A.a4 A.a5 A.a6 A.a7 A.a8 n k=true/\zan.i 0 F A.a0 A.a1 A.a2 A.a3 A.a4 A.a5 A.a6 A.a7 A.a8 n k=z0/\zan.i 1 F A.a0 A.a1 A.a2 A.a3 A.a4 A.a5 A.a6 A.a7 A.a8 n k=z1/\zan.i 2 F A.a0 A.a1 A.a2 A.a3 A.a4 A.a5 A.a6 A.a7 A.a8 n k=z2:=by
 obtain⟨b,b0,b1,b2,b3,b4,b5,b6,b7,b8⟩:=zGK F hF A.a0 A.a1 A.a2 A.a3 A.a4 A.a5 A.a6 A.a7 A.a8;by_cases h:0<=k/\k<=2
 ·rcases(show k=0\/k=1\/k=2 from zc)with rfl|rfl|rfl
  ·refine⟨A.a0,A.a3,A.a6,zia F _ _ _ _ _ _ _ _ _ _ _ ?_,zif F _ _ _ _ _ _ _ _ _ _ _ ?_⟩
   ·unfold zeB zdW
    dsimp only;rw [b0,b1,b2,b3,b4,b5,b6,b7,b8];exact bn rfl (bn rfl (bp b (bp rfl rfl)))
   ·unfold zdj
    exact bn rfl (bn rfl (bp rfl (bp rfl (bp rfl (bp rfl (bp rfl (bp rfl rfl)))))))
  ·refine⟨A.a1,A.a4,A.a7,zia F _ _ _ _ _ _ _ _ _ _ _ ?_,zif F _ _ _ _ _ _ _ _ _ _ _ ?_⟩
   ·unfold zeB zdW
    dsimp only;rw [b0,b1,b2,b3,b4,b5,b6,b7,b8];exact bn rfl (bn rfl (bp b (bp rfl rfl)))
   ·unfold zdj
    exact bn rfl (bn rfl (bp rfl (bp rfl (bp rfl (bp rfl (bp rfl (bp rfl rfl)))))))
  ·refine⟨A.a2,A.a5,A.a8,zia F _ _ _ _ _ _ _ _ _ _ _ ?_,zif F _ _ _ _ _ _ _ _ _ _ _ ?_⟩
   ·unfold zeB zdW
    dsimp only;rw [b0,b1,b2,b3,b4,b5,b6,b7,b8];exact bn rfl (bn rfl (bp b (bp rfl rfl)))
   ·unfold zdj
    exact bn rfl (bn rfl (bp rfl (bp rfl (bp rfl (bp rfl (bp rfl (bp rfl rfl)))))))
 ·refine⟨0,0,0,zia F _ _ _ _ _ _ _ _ _ _ _ ?_,zif F _ _ _ _ _ _ _ _ _ _ _ ?_⟩
  ·unfold zeB zdW
   by_cases h0:k<0
   ·exact bp (dt h0) rfl
   ·exact bn (df h0) (bp (dt zc) rfl)
  ·unfold zdj
   by_cases h0:k<0
   ·exact bp (dt h0) rfl
   ·exact bn (df h0) (bp (dt zc) rfl)
theorem zWG(F:Nat):yQ.ok F=true/\yQ.i 0 F=zcH.m.a0/\yQ.i 1 F=zcH.m.a1/\yQ.i 2 F=zcH.m.a2/\yQ.i 3 F=zcH.m.a3/\yQ.i 4 F=zcH.m.a4/\yQ.i 5 F=zcH.m.a5/\yQ.i 6 F=zcH.m.a6/\yQ.i 7 F=zcH.m.a7/\yQ.i 8 F=zcH.m.a8/\yQ.i 9 F=zcH.n:=by
 refine zK1 F ?_;unfold zs2 zrr;obtain⟨m,m0,m1,m2,m3,m4,m5,m6,m7,m8⟩:=zPe F;refine bp m ?_;rw [m0,m1,m2,m3,m4,m5,m6,m7,m8];rfl
def zK3:Cfg:=⟨[0,1,2,4,5],[],[],[]⟩
def zoi:Sg:=⟨[.i,.fpx [.i,.i,.i] (.lit 0),.fpx [.i,.i,.i] (.lit 0)],.v (.tup [.i,.bool])⟩
def zK4(jv:jQ)(F:Nat):=zS [(52,zz zmm ki2 jv F)]
def zig(jv:jQ)(F:Nat):FT ki7:=fun a e g h l m o=>bif((decide (0<=a))&&(decide (a<3)))then let p:Nat:=0+((Int.toNat a)*1);bif((isI .i64 [.v (.i e),.v (.i g),.v (.i h)][p]?)&&true)then let c:Int:=iv [.v (.i e),.v (.i g),.v (.i h)][p]?;bif((decide (0<=a))&&(decide (a<3)))then let s:Nat:=0+((Int.toNat a)*1);bif((isI .i64 [.v (.i l),.v (.i m),.v (.i o)][s]?)&&true)then let d:Int:=iv [.v (.i l),.v (.i m),.v (.i o)][s]?;bif(jv.ok F c d)then some (.v (.tuple #[.i (jv.i 0 F c d),.bool (jv.b 1 F c d)]))else none else none else none else none else none
def zkG:=zig jv
def yG:Qi7:=mkQ (l:=ki7) zoi.o zkG
theorem zK5(jv:jQ)(F:Nat):HHz zoi ki7 (zK4 jv F) zK3 [] 99 (zig jv F):=hzz
theorem zs3(F:Nat)(a c d e g h l:Int):KO4 (zkG F a c d e g h l) (yG.ok F a c d e g h l) (yG.i 0 F a c d e g h l) (yG.b 1 F a c d e g h l):=ko4 _
theorem zK6(F:Nat):yc PP 99 (unS (zz zoi ki7 yG F)):=
 gzz F (zK5 jv F) (zd (zwV F) zn)
def zru:Cfg:=⟨[0,2,3,4,5,6,7,8,9,10],[(0,[0,2,3,4,5,9,26,27])],[],[]⟩
def zmb:Sg:=⟨[.fn 99 [.fpx [.i,.i,.i] (.lit 0),.fpx [.i,.i,.i] (.lit 0)]],.v (.tup [.agg [.i,.i,.i],.bool])⟩
def zrv(yG:Qi7)(F:Nat):=zS [(99,zz zoi ki7 yG F)]
def zih:TS:=⟨[(0,.fn 99 [.fpx [.i,.i,.i] (.lit 0),.fpx [.i,.i,.i] (.lit 0)]),(2,.lp 0 (.lit 0)),(3,.v (.bool)),(4,.lp 1 (.lit 0)),(5,.v (.bool)),(9,.i)],[(0,⟨(.ex [.i,.i,.i]),true⟩),(1,⟨.hole,true⟩)],2⟩
def zxu:TS:=zih
def zb3(yG:Qi7)(F:Nat)(y s:FT j6):FT j6:=fun g h l m o p t z c u d e a=>bif(decide (c<3))then bif(yG.ok F c g h l m o p)then let f:Int:=yG.i 0 F c g h l m o p;bif z then bif((decide (0<=c))&&(decide (c<3)))then let w:Nat:=0+((Int.toNat c)*1);bif(decide ((w+1)<=a.length))then y g h l m o p t true (wrap .i64 (c+1)) u d e (a.take w++[.v (.i f)]++a.drop (w+1))else none else none else bif((decide (0<=c))&&(decide (c<3)))then let x:Nat:=0+((Int.toNat c)*1);bif(decide ((x+1)<=a.length))then y g h l m o p t (yG.b 1 F c g h l m o p) (wrap .i64 (c+1)) u d e (a.take x++[.v (.i f)]++a.drop (x+1))else none else none else none else s g h l m o p t z c u d e a
def zcl:=zb3 yG
def jJ(F:Nat)(a:FT j6):Nat->FT j6:=lY fun b=>zcl F b a
theorem zdk{F n}{a}:jJ F a (n+1)=zcl F (jJ F a n) a:=rfl
def zja(k:Exit->VS->R):FT j6:=cQ _ fun q=>k (.exit 0) (fS zxu q)
def zii(jJ:Nat->FT j6->Nat->FT j6)(F:Nat):List LW:=[⟨0,zih,fun k q=>uQ _ (jJ F (zja k) F) q⟩]
theorem zzk(F:Nat)(k:Exit->VS->R):∀n q,iQ PP (zrv yG F) zru (zii jJ F) [] 96 0 0 k n zih q=uQ _ (jJ F (zja k) n) q:=
 lG (fun _=>by kernel_rfl) ((hzz:∀(yG:Qi7) (jJ:Nat->FT j6->Nat->FT j6),LH PP (zrv yG F) zru (zii jJ F) [] 96 0 0 k zih (fun a=>zb3 yG F a (zja k))) yG jJ)
def zpe(jJ:Nat->FT j6->Nat->FT j6)(F:Nat):FT ki6:=fun c d e g h l=>jJ F (fun t u w x y z f b m o p s a=>bif((isI .i64 a[0]?)&&((isI .i64 a[1]?)&&((isI .i64 a[2]?)&&true)))then some (.v (.tuple #[.agg #[.i (iv a[0]?),.i (iv a[1]?),.i (iv a[2]?)],.bool b]))else none) F c d e g h l false false 0 0 0 0 ([.v (.i 0),.v (.i 0),.v (.i 0)])
def zmc:=zpe jJ
def zaR:Qi6:=mkQ (l:=ki6) zmb.o zmc
theorem zHu(yG:Qi7)(jJ:Nat->FT j6->Nat->FT j6)(F:Nat):HHz zmb ki6 (zrv yG F) zru (zii jJ F) 96 (zpe jJ F):=hzz
theorem zHv(F:Nat)(a c d e g h:Int):zkR (zmc F a c d e g h) (zaR.ok F a c d e g h) (zaR.i 0 F a c d e g h) (zaR.i 1 F a c d e g h) (zaR.i 2 F a c d e g h) (zaR.b 3 F a c d e g h):=zll _
theorem zHw(F:Nat):yc PP 96 (unS (zz zmb ki6 zaR F)):=
 gzl (W:=zii jJ) F (zHu yG jJ F) (zd (zK6 F) zn) (jP [(0,zaK PP 96 0)] kfz (zd (jZ (zii jJ F) rfl (yn (fun _ k q=>Le.ofEq (zzk F k F q).symm) jY)) zn))
def zQX:Cfg:=⟨[0,1,2,3,4,5],[],[],[]⟩
def ztB:Sg:=⟨[.v (.agg [.i,.i,.i]),.v (.agg [.i,.i,.i])],.v (.tup [.agg [.i,.i,.i],.bool])⟩
def zQY(zaR:Qi6)(F:Nat):=zS [(96,zz zmb ki6 zaR F)]
def zvi(zaR:Qi6)(F:Nat):FT ki6:=fun a c d e g h=>bif(zaR.ok F a c d e g h)then some (.v (.tuple #[.agg #[.i (zaR.i 0 F a c d e g h),.i (zaR.i 1 F a c d e g h),.i (zaR.i 2 F a c d e g h)],.bool (zaR.b 3 F a c d e g h)]))else none
def zxv:=zvi zaR
def zb7:Qi6:=mkQ (l:=ki6) ztB.o zxv
theorem zQZ(zaR:Qi6)(F:Nat):HHz ztB ki6 (zQY zaR F) zQX [] 51 (zvi zaR F):=hzz
theorem zQ0(F:Nat)(a c d e g h:Int):zkR (zxv F a c d e g h) (zb7.ok F a c d e g h) (zb7.i 0 F a c d e g h) (zb7.i 1 F a c d e g h) (zb7.i 2 F a c d e g h) (zb7.b 3 F a c d e g h):=zll _
theorem zQ1(F:Nat):yc PP 51 (unS (zz ztB ki6 zb7 F)):=
 gzz F (zQZ zaR F) (zd (zHw F) zn)
def zDy:Cfg:=⟨[0,1,2,4,5],[],[],[]⟩
def zjX:Sg:=⟨[.i,.fpx [.i,.i,.i] (.lit 0),.fpx [.i] (.lit 0)],.v (.tup [.i,.bool])⟩
def zDz(yS:jQ)(F:Nat):=zS [(98,zz zkD ki2 yS F)]
def zfi(yS:jQ)(F:Nat):FT ki5:=fun a e g h c=>bif((decide (0<=a))&&(decide (a<3)))then let l:Nat:=0+((Int.toNat a)*1);bif((isI .i64 [.v (.i e),.v (.i g),.v (.i h)][l]?)&&true)then let d:Int:=iv [.v (.i e),.v (.i g),.v (.i h)][l]?;bif(yS.ok F d c)then some (.v (.tuple #[.i (yS.i 0 F d c),.bool (yS.b 1 F d c)]))else none else none else none
def zgb:=zfi yS
def yi:Qi5:=mkQ (l:=ki5) zjX.o zgb
theorem zDA(yS:jQ)(F:Nat):HHz zjX ki5 (zDz yS F) zDy [] 97 (zfi yS F):=hzz
theorem zpf(F:Nat)(a c d e g:Int):KO4 (zgb F a c d e g) (yi.ok F a c d e g) (yi.i 0 F a c d e g) (yi.b 1 F a c d e g):=ko4 _
theorem zDB(F:Nat):yc PP 97 (unS (zz zjX ki5 yi F)):=
 gzz F (zDA yS F) (zd (zyo F) zn)
def zrw:Cfg:=⟨[0,2,3,4,5,6,7,8,9,10],[(0,[0,2,3,4,5,9,26,27])],[],[]⟩
def zmd:Sg:=⟨[.fn 97 [.fpx [.i,.i,.i] (.lit 0),.fpx [.i] (.lit 0)]],.v (.tup [.agg [.i,.i,.i],.bool])⟩
def zrx(yi:Qi5)(F:Nat):=zS [(97,zz zjX ki5 yi F)]
def zij:TS:=⟨[(0,.fn 97 [.fpx [.i,.i,.i] (.lit 0),.fpx [.i] (.lit 0)]),(2,.lp 0 (.lit 0)),(3,.v (.bool)),(4,.lp 1 (.lit 0)),(5,.v (.bool)),(9,.i)],[(0,⟨(.ex [.i,.i,.i]),true⟩),(1,⟨.hole,true⟩)],2⟩
def zxw:TS:=zij
def zb4(yi:Qi5)(F:Nat)(w l:FT yR):FT yR:=fun d e g h m x c o p s a=>bif(decide (c<3))then bif(yi.ok F c d e g h)then let y:Int:=yi.i 0 F c d e g h;bif x then bif((decide (0<=c))&&(decide (c<3)))then let t:Nat:=0+((Int.toNat c)*1);bif(decide ((t+1)<=a.length))then w d e g h m true (wrap .i64 (c+1)) o p s (a.take t++[.v (.i y)]++a.drop (t+1))else none else none else bif((decide (0<=c))&&(decide (c<3)))then let u:Nat:=0+((Int.toNat c)*1);bif(decide ((u+1)<=a.length))then w d e g h m (yi.b 1 F c d e g h) (wrap .i64 (c+1)) o p s (a.take u++[.v (.i y)]++a.drop (u+1))else none else none else none else l d e g h m x c o p s a
def zcm:=zb4 yi
def jK(F:Nat)(a:FT yR):Nat->FT yR:=lY fun b=>zcm F b a
theorem zdl{F n}{a}:jK F a (n+1)=zcm F (jK F a n) a:=rfl
def zjb(k:Exit->VS->R):FT yR:=cQ _ fun q=>k (.exit 0) (fS zxw q)
def zik(jK:Nat->FT yR->Nat->FT yR)(F:Nat):List LW:=[⟨0,zij,fun k q=>uQ _ (jK F (zjb k) F) q⟩]
theorem zzl(F:Nat)(k:Exit->VS->R):∀n q,iQ PP (zrx yi F) zrw (zik jK F) [] 96 0 0 k n zij q=uQ _ (jK F (zjb k) n) q:=
 lG (fun _=>by kernel_rfl) ((hzz:∀(yi:Qi5) (jK:Nat->FT yR->Nat->FT yR),LH PP (zrx yi F) zrw (zik jK F) [] 96 0 0 k zij (fun a=>zb4 yi F a (zjb k))) yi jK)
def zpg(jK:Nat->FT yR->Nat->FT yR)(F:Nat):FT ki4:=fun b c d e=>jK F (fun o p s t u g w h l m a=>bif((isI .i64 a[0]?)&&((isI .i64 a[1]?)&&((isI .i64 a[2]?)&&true)))then some (.v (.tuple #[.agg #[.i (iv a[0]?),.i (iv a[1]?),.i (iv a[2]?)],.bool g]))else none) F b c d e false false 0 0 0 0 ([.v (.i 0),.v (.i 0),.v (.i 0)])
def zme:=zpg jK
def zaS:Qi4:=mkQ (l:=ki4) zmd.o zme
theorem zHx(yi:Qi5)(jK:Nat->FT yR->Nat->FT yR)(F:Nat):HHz zmd ki4 (zrx yi F) zrw (zik jK F) 96 (zpg jK F):=hzz
theorem zHy(F:Nat)(a c d e:Int):zkR (zme F a c d e) (zaS.ok F a c d e) (zaS.i 0 F a c d e) (zaS.i 1 F a c d e) (zaS.i 2 F a c d e) (zaS.b 3 F a c d e):=zll _
theorem zHz(F:Nat):yc PP 96 (unS (zz zmd ki4 zaS F)):=
 gzl (W:=zik jK) F (zHx yi jK F) (zd (zDB F) zn) (jP [(0,zaK PP 96 0)] kfz (zd (jZ (zik jK F) rfl (yn (fun _ k q=>Le.ofEq (zzl F k F q).symm) jY)) zn))
def zK7:Cfg:=⟨[0,1,2,3,4,5],[],[],[]⟩
def zoj:Sg:=⟨[.v (.agg [.i,.i,.i]),.i],.v (.tup [.agg [.i,.i,.i],.bool])⟩
def zK8(zaS:Qi4)(F:Nat):=zS [(96,zz zmd ki4 zaS F)]
def zry(zaS:Qi4)(F:Nat):FT ki4:=fun a c d e=>bif(zaS.ok F a c d e)then some (.v (.tuple #[.agg #[.i (zaS.i 0 F a c d e),.i (zaS.i 1 F a c d e),.i (zaS.i 2 F a c d e)],.bool (zaS.b 3 F a c d e)]))else none
def zs4:=zry zaS
def zbp:Qi4:=mkQ (l:=ki4) zoj.o zs4
theorem zK9(zaS:Qi4)(F:Nat):HHz zoj ki4 (zK8 zaS F) zK7 [] 50 (zry zaS F):=hzz
theorem zLa(F:Nat)(a c d e:Int):zkR (zs4 F a c d e) (zbp.ok F a c d e) (zbp.i 0 F a c d e) (zbp.i 1 F a c d e) (zbp.i 2 F a c d e) (zbp.b 3 F a c d e):=zll _
theorem zLb(F:Nat):yc PP 50 (unS (zz zoj ki4 zbp F)):=
 gzz F (zK9 zaS F) (zd (zHz F) zn)
theorem zDC(F:Nat)(hF:200<=F){a0 a1 a2 a3 a4 a5 v0 v1 v2:Int}{c0 c1 c2:Bool}(h0:yG.ok F 0 a0 a1 a2 a3 a4 a5=true/\yG.i 0 F 0 a0 a1 a2 a3 a4 a5=v0/\yG.b 1 F 0 a0 a1 a2 a3 a4 a5=c0)(h1:yG.ok F 1 a0 a1 a2 a3 a4 a5=true/\yG.i 0 F 1 a0 a1 a2 a3 a4 a5=v1/\yG.b 1 F 1 a0 a1 a2 a3 a4 a5=c1)(h2:yG.ok F 2 a0 a1 a2 a3 a4 a5=true/\yG.i 0 F 2 a0 a1 a2 a3 a4 a5=v2/\yG.b 1 F 2 a0 a1 a2 a3 a4 a5=c2):
 zmc F a0 a1 a2 a3 a4 a5=some (.v (.tuple #[.agg #[.i v0,.i v1,.i v2],.bool (c0||c1||c2)])):=by
 obtain⟨a1,a2,a3⟩:=h0;obtain⟨b1,b2,b3⟩:=h1;obtain⟨d1,d2,d3⟩:=h2;obtain⟨G,hG⟩:∃G,F=G+4:=⟨F-4,zc⟩;have w1:wrap .i64 (0+1)=1:=dcz;have w2:wrap .i64 (1+1)=2:=dcz;have w3:wrap .i64 (2+1)=3:=dcz;unfold zmc zpe;rw [show jJ F _ F=jJ F _ (G+4)from congrArg (jJ F _) hG,zdk];unfold zcl zb3;refine bp rfl (bp a1 (bn rfl (bp rfl (bp rfl ?_))));rw [a2,a3,w1,zdk];unfold zcl zb3;refine bp rfl (bp b1 ?_);rw [b2,b3,w2];cases c0
 ·refine bn rfl (bp rfl (bp rfl ?_))
  rw [zdk];unfold zcl zb3;refine bp rfl (bp d1 ?_);rw [d2,d3,w3];cases c1
  ·refine bn rfl (bp rfl (bp rfl ?_))
   rw [zdk];unfold zcl zb3;exact bn rfl (bp rfl rfl)
  ·refine bp rfl (bp rfl (bp rfl ?_))
   rw [zdk];unfold zcl zb3;exact bn rfl (bp rfl rfl)
 ·refine bp rfl (bp rfl (bp rfl ?_))
  rw [zdk];unfold zcl zb3;refine bp rfl (bp d1 ?_);rw [d2,w3];refine bp rfl (bp rfl (bp rfl ?_));rw [zdk];unfold zcl zb3;exact bn rfl (bp rfl (by rw [Bool.true_or,Bool.true_or];rfl))
theorem zUP(F:Nat){a0 a1 a2 a3 a4 a5:Int}(h:zr a0)(hm:zr a3):yG.ok F 0 a0 a1 a2 a3 a4 a5=true/\yG.i 0 F 0 a0 a1 a2 a3 a4 a5=zh (a0+a3)/\yG.b 1 F 0 a0 a1 a2 a3 a4 a5=zw (a0+a3):=by
 refine zs3 F _ _ _ _ _ _ _ ?_;unfold zkG zig;obtain⟨h1,h2,h3⟩:=zAA F h hm;refine bp rfl (bp rfl (bp rfl (bp rfl (bp h1 ?_))));exact congrArg some (show VV.v (.tuple #[.i (jv.i 0 F a0 a3),.bool (jv.b 1 F a0 a3)])=_ by rw [h2,h3])
theorem zUQ(F:Nat){a0 a1 a2 a3 a4 a5:Int}(h:zr a1)(hm:zr a4):yG.ok F 1 a0 a1 a2 a3 a4 a5=true/\yG.i 0 F 1 a0 a1 a2 a3 a4 a5=zh (a1+a4)/\yG.b 1 F 1 a0 a1 a2 a3 a4 a5=zw (a1+a4):=by
 refine zs3 F _ _ _ _ _ _ _ ?_;unfold zkG zig;obtain⟨h1,h2,h3⟩:=zAA F h hm;refine bp rfl (bp rfl (bp rfl (bp rfl (bp h1 ?_))));exact congrArg some (show VV.v (.tuple #[.i (jv.i 0 F a1 a4),.bool (jv.b 1 F a1 a4)])=_ by rw [h2,h3])
theorem zUR(F:Nat){a0 a1 a2 a3 a4 a5:Int}(h:zr a2)(hm:zr a5):yG.ok F 2 a0 a1 a2 a3 a4 a5=true/\yG.i 0 F 2 a0 a1 a2 a3 a4 a5=zh (a2+a5)/\yG.b 1 F 2 a0 a1 a2 a3 a4 a5=zw (a2+a5):=by
 refine zs3 F _ _ _ _ _ _ _ ?_;unfold zkG zig;obtain⟨h1,h2,h3⟩:=zAA F h hm;refine bp rfl (bp rfl (bp rfl (bp rfl (bp h1 ?_))));exact congrArg some (show VV.v (.tuple #[.i (jv.i 0 F a2 a5),.bool (jv.b 1 F a2 a5)])=_ by rw [h2,h3])
theorem zWH(F:Nat)(hF:200<=F){a0 a1 a2 a3 a4 a5:Int}(h0:zr a0)(h1:zr a1)(h2:zr a2)(h3:zr a3)(h4:zr a4)(h5:zr a5):zb7.ok F a0 a1 a2 a3 a4 a5=true/\zb7.i 0 F a0 a1 a2 a3 a4 a5=zh (a0+a3)/\zb7.i 1 F a0 a1 a2 a3 a4 a5=zh (a1+a4)/\zb7.i 2 F a0 a1 a2 a3 a4 a5=zh (a2+a5)/\zb7.b 3 F a0 a1 a2 a3 a4 a5=(zw (a0+a3)||zw (a1+a4)||zw (a2+a5)):=by
 refine zQ0 F _ _ _ _ _ _ ?_;unfold zxv zvi;obtain⟨e1,e2,e3,e4,e5⟩:=zHv F _ _ _ _ _ _ (zDC F hF (zUP F h0 h3) (zUQ F h1 h4) (zUR F h2 h5));refine bp e1 ?_;rw [e2,e3,e4,e5]
theorem zUS(F:Nat)(hF:200<=F){a b:Int}(ha:zr a)(hb:zr b):zaH.ok F a b=true/\zaH.i 0 F a b=zld a b/\zaH.b 1 F a b=zuc a b:=ztu F _ _ (zFF F hF ha hb)
theorem zSU(F:Nat)(hF:200<=F){a:Att}(hM:MI a.m){v0 v1 v2:Int}(h0:I32 v0)(h1:I32 v1)(h2:I32 v2):zba.ok F a.m.a0 a.m.a1 a.m.a2 a.m.a3 a.m.a4 a.m.a5 a.m.a6 a.m.a7 a.m.a8 a.n v0 v1 v2=true/\zba.i 0 F a.m.a0 a.m.a1 a.m.a2 a.m.a3 a.m.a4 a.m.a5 a.m.a6 a.m.a7 a.m.a8 a.n v0 v1 v2=zh (jA a.m.a0 a.m.a1 a.m.a2 (wid v0) (wid v1) (wid v2))/\zba.i 1 F a.m.a0 a.m.a1 a.m.a2 a.m.a3 a.m.a4 a.m.a5 a.m.a6 a.m.a7 a.m.a8 a.n v0 v1 v2=zh (jA a.m.a3 a.m.a4 a.m.a5 (wid v0) (wid v1) (wid v2))/\zba.i 2 F a.m.a0 a.m.a1 a.m.a2 a.m.a3 a.m.a4 a.m.a5 a.m.a6 a.m.a7 a.m.a8 a.n v0 v1 v2=zh (jA a.m.a6 a.m.a7 a.m.a8 (wid v0) (wid v1) (wid v2))/\zba.b 3 F a.m.a0 a.m.a1 a.m.a2 a.m.a3 a.m.a4 a.m.a5 a.m.a6 a.m.a7 a.m.a8 a.n v0 v1 v2=(zw (jA a.m.a0 a.m.a1 a.m.a2 (wid v0) (wid v1) (wid v2))||zw (jA a.m.a3 a.m.a4 a.m.a5 (wid v0) (wid v1) (wid v2))||zw (jA a.m.a6 a.m.a7 a.m.a8 (wid v0) (wid v1) (wid v2))):=by
 obtain⟨i0,i1,i2,i3,i4,i5,i6,i7,i8⟩:=hM;obtain⟨p,p0,p1,p2,p3⟩:=zsW F hF i0 i1 i2 i3 i4 i5 i6 i7 i8 (zoh h0) (zoh h1) (zoh h2);refine zA9 F _ _ _ _ _ _ _ _ _ _ _ _ _ ?_;unfold zrp zof;obtain⟨G,hG⟩:∃G,F=G+4:=⟨F-4,zc⟩;have w0:wrap .i64 (0+1)=1:=dcz;have w1:wrap .i64 (1+1)=2:=dcz;have w2:wrap .i64 (2+1)=3:=dcz;obtain⟨s0,t0⟩:=znh F h0;obtain⟨s1,t1⟩:=znh F h1;obtain⟨s2,t2⟩:=znh F h2;rw [show jX F _ F=jX F _ (G+4)from congrArg (jX F _) hG];rw [zdO];unfold zcB zcd;dsimp only;refine bp rfl (bp rfl ?_);rw [show(iv [VV.v (.int .i32 v0),.v (.int .i32 v1),.v (.int .i32 v2)][Int.toNat 0*1]?)=v0 from rfl];refine bp s0 (bp rfl (bp rfl ?_))
 rw [t0,w0];rw [zdO];unfold zcB zcd;dsimp only;refine bp rfl (bp rfl ?_);rw [show(iv [VV.v (.int .i32 v0),.v (.int .i32 v1),.v (.int .i32 v2)][Int.toNat 1*1]?)=v1 from rfl];refine bp s1 (bp rfl (bp rfl ?_));rw [t1,w1];rw [zdO];unfold zcB zcd;dsimp only;refine bp rfl (bp rfl ?_);rw [show(iv [VV.v (.int .i32 v0),.v (.int .i32 v1),.v (.int .i32 v2)][Int.toNat 2*1]?)=v2 from rfl];refine bp s2 (bp rfl (bp rfl ?_));rw [t2,w2];rw [zdO];unfold zcB zcd;dsimp only;refine bn rfl (bp rfl (bp p ?_));exact congrArg some (show VV.v (.tuple #[.agg #[.i (zB.i 0 F a.m.a0 a.m.a1 a.m.a2 a.m.a3 a.m.a4 a.m.a5 a.m.a6 a.m.a7 a.m.a8 (wid v0) (wid v1) (wid v2)),.i (zB.i 1 F a.m.a0 a.m.a1 a.m.a2 a.m.a3 a.m.a4 a.m.a5 a.m.a6 a.m.a7 a.m.a8 (wid v0) (wid v1) (wid v2)),.i (zB.i 2 F a.m.a0 a.m.a1 a.m.a2 a.m.a3 a.m.a4 a.m.a5 a.m.a6 a.m.a7 a.m.a8 (wid v0) (wid v1) (wid v2))],.bool (zB.b 3 F a.m.a0 a.m.a1 a.m.a2 a.m.a3 a.m.a4 a.m.a5 a.m.a6 a.m.a7 a.m.a8 (wid v0) (wid v1) (wid v2))])=_ by rw [p0,p1,p2,p3])
theorem zEl(F:Nat)(hF:200<=F)(A:Mt)(n:Int):za5.ok F A.a0 A.a1 A.a2 A.a3 A.a4 A.a5 A.a6 A.a7 A.a8 n 0=true/\za5.i 0 F A.a0 A.a1 A.a2 A.a3 A.a4 A.a5 A.a6 A.a7 A.a8 n 0=A.a0/\za5.i 1 F A.a0 A.a1 A.a2 A.a3 A.a4 A.a5 A.a6 A.a7 A.a8 n 0=A.a3/\za5.i 2 F A.a0 A.a1 A.a2 A.a3 A.a4 A.a5 A.a6 A.a7 A.a8 n 0=A.a6:=by
 obtain⟨b,b0,b1,b2,b3,b4,b5,b6,b7,b8⟩:=zGK F hF A.a0 A.a1 A.a2 A.a3 A.a4 A.a5 A.a6 A.a7 A.a8;refine zia F _ _ _ _ _ _ _ _ _ _ _ ?_;unfold zeB zdW;dsimp only;rw [b0,b1,b2,b3,b4,b5,b6,b7,b8];exact bn rfl (bn rfl (bp b (bp rfl rfl)))
end Go.Xv
namespace Go.Xv
open Go.RowKit
theorem yc.plain{P:Program}{f:FuncId}{g:List VV->Option VV}(hg:yc P f g)(xs:List Value)(y:Value)(h:g (xs.map .v)=some (.v y))(w:World):
 Calls P f xs.toArray w fun e w'=>e= .returned y/\Below w.heap.size w w':=by
 obtain⟨_,hk⟩:=hg _ _ h;refine(hk w xs.toArray (fun _=>False) (fun _ h=>h.elim) jq (fun i x hx=> ?_)).mono ?_
 ·simp only [List.getElem?_map,Option.map_eq_some_iff]at hx
  obtain⟨v,hv,rfl⟩:=hx;exact⟨v,by simpa using hv,.v _ _⟩
 ·rintro e w' ⟨v,rfl,hb,hr⟩
  obtain rfl:=hr.1.v_inv;exact⟨rfl,hb⟩
theorem zQ2{a b:Int}(ha:zr a)(hb:zr b)(w:World):Calls PP 87 #[.i a,.i b] w fun e w'=>e= .returned (.tuple #[.i (zld a b),.bool (zuc a b)])/\Below w.heap.size w w':=by
 refine yc.plain (zEg 200) [.i a,.i b] _ ?_ w;obtain⟨h,q0,q1⟩:=zUS 200 (Nat.le_refl _) ha hb;have e:zz zpO ki2 zaH 200 [.v (.i a),.v (.i b)]=some (zaH.ok 200 a b,.v (.tuple #[.i (zaH.i 0 200 a b),.bool (zaH.b 1 200 a b)])):=kfz;rw [h,q0,q1]at e;exact zdE e
theorem zNS{a0 a1 a2 a3 a4 a5:Int}(h0:zr a0)(h1:zr a1)(h2:zr a2)(h3:zr a3)(h4:zr a4)(h5:zr a5)(w:World):Calls PP 90 #[.agg #[.i a0,.i a1,.i a2],.agg #[.i a3,.i a4,.i a5]] w fun e w'=>e= .returned (.tuple #[.agg #[.i (zh (a0-a3)),.i (zh (a1-a4)),.i (zh (a2-a5))],.bool (zw (a0-a3)||zw (a1-a4)||zw (a2-a5))])/\Below w.heap.size w w':=by
 refine yc.plain (zEi 200) [.agg #[.i a0,.i a1,.i a2],.agg #[.i a3,.i a4,.i a5]] _ ?_ w;obtain⟨h,q0,q1,q2,q3⟩:=zVN 200 (Nat.le_refl _) h0 h1 h2 h3 h4 h5;have e:zz zpQ ki6 zaw 200 [.v (.agg #[.i a0,.i a1,.i a2]),.v (.agg #[.i a3,.i a4,.i a5])]=some (zaw.ok 200 a0 a1 a2 a3 a4 a5,.v (.tuple #[.agg #[.i (zaw.i 0 200 a0 a1 a2 a3 a4 a5),.i (zaw.i 1 200 a0 a1 a2 a3 a4 a5),.i (zaw.i 2 200 a0 a1 a2 a3 a4 a5)],.bool (zaw.b 3 200 a0 a1 a2 a3 a4 a5)])):=kfz;rw [h,q0,q1,q2,q3]at e;exact zdE e
theorem zrz{a0 a1 a2 a3 a4 a5:Int}(h0:zr a0)(h1:zr a1)(h2:zr a2)(h3:zr a3)(h4:zr a4)(h5:zr a5)(w:World):Calls PP 51 #[.agg #[.i a0,.i a1,.i a2],.agg #[.i a3,.i a4,.i a5]] w fun e w'=>e= .returned (.tuple #[.agg #[.i (zh (a0+a3)),.i (zh (a1+a4)),.i (zh (a2+a5))],.bool (zw (a0+a3)||zw (a1+a4)||zw (a2+a5))])/\Below w.heap.size w w':=by
 refine yc.plain (zQ1 200) [.agg #[.i a0,.i a1,.i a2],.agg #[.i a3,.i a4,.i a5]] _ ?_ w;obtain⟨h,q0,q1,q2,q3⟩:=zWH 200 (Nat.le_refl _) h0 h1 h2 h3 h4 h5;have e:zz ztB ki6 zb7 200 [.v (.agg #[.i a0,.i a1,.i a2]),.v (.agg #[.i a3,.i a4,.i a5])]=some (zb7.ok 200 a0 a1 a2 a3 a4 a5,.v (.tuple #[.agg #[.i (zb7.i 0 200 a0 a1 a2 a3 a4 a5),.i (zb7.i 1 200 a0 a1 a2 a3 a4 a5),.i (zb7.i 2 200 a0 a1 a2 a3 a4 a5)],.bool (zb7.b 3 200 a0 a1 a2 a3 a4 a5)])):=kfz;rw [h,q0,q1,q2,q3]at e;exact zdE e
theorem zwk{a0 a1 a2 a3:Int}(h0:zr a0)(h1:zr a1)(h2:zr a2)(h3:zr a3)(w:World):Calls PP 91 #[.agg #[.i a0,.i a1,.i a2],.i a3] w fun e w'=>e= .returned (.tuple #[.agg #[.i (zh (pr a0 a3)),.i (zh (pr a1 a3)),.i (zh (pr a2 a3))],.bool (zw (pr a0 a3)||zw (pr a1 a3)||zw (pr a2 a3))])/\Below w.heap.size w w':=by
 refine yc.plain (zyk 200) [.agg #[.i a0,.i a1,.i a2],.i a3] _ ?_ w;obtain⟨h,q0,q1,q2,q3⟩:=zO8 200 (Nat.le_refl _) h0 h1 h2 h3;have e:zz zkz ki4 jp 200 [.v (.agg #[.i a0,.i a1,.i a2]),.v (.i a3)]=some (jp.ok 200 a0 a1 a2 a3,.v (.tuple #[.agg #[.i (jp.i 0 200 a0 a1 a2 a3),.i (jp.i 1 200 a0 a1 a2 a3),.i (jp.i 2 200 a0 a1 a2 a3)],.bool (jp.b 3 200 a0 a1 a2 a3)])):=kfz;rw [h,q0,q1,q2,q3]at e;exact zdE e
theorem zNT{a0 a1 a2 a3 a4 a5:Int}(h0:zr a0)(h1:zr a1)(h2:zr a2)(h3:zr a3)(h4:zr a4)(h5:zr a5)(w:World):Calls PP 85 #[.agg #[.i a0,.i a1,.i a2],.agg #[.i a3,.i a4,.i a5]] w fun e w'=>e= .returned (.tuple #[.i (zh (jA a0 a1 a2 a3 a4 a5)),.bool (zw (jA a0 a1 a2 a3 a4 a5))])/\Below w.heap.size w w':=by
 refine yc.plain (zxi 200) [.agg #[.i a0,.i a1,.i a2],.agg #[.i a3,.i a4,.i a5]] _ ?_ w;obtain⟨h,q0,q1⟩:=zKk 200 (Nat.le_refl _) h0 h1 h2 h3 h4 h5;have e:zz zmo ki6 yO 200 [.v (.agg #[.i a0,.i a1,.i a2]),.v (.agg #[.i a3,.i a4,.i a5])]=some (yO.ok 200 a0 a1 a2 a3 a4 a5,.v (.tuple #[.i (yO.i 0 200 a0 a1 a2 a3 a4 a5),.bool (yO.b 1 200 a0 a1 a2 a3 a4 a5)])):=kfz;rw [h,q0,q1]at e;exact zdE e
theorem zBe(w:World):Calls PP 22 #[] w fun e w'=>e= .returned (.agg #[.i zcH.m.a0,.i zcH.m.a1,.i zcH.m.a2,.i zcH.m.a3,.i zcH.m.a4,.i zcH.m.a5,.i zcH.m.a6,.i zcH.m.a7,.i zcH.m.a8,.i zcH.n])/\Below w.heap.size w w':=by
 refine yc.plain (zQS 200) [] _ ?_ w;obtain⟨h,q0,q1,q2,q3,q4,q5,q6,q7,q8,q9⟩:=zXU 200 (Nat.le_refl _);have e:zz ztA k0 jU 200 []=some (jU.ok 200,.v (.agg #[.i (jU.i 0 200),.i (jU.i 1 200),.i (jU.i 2 200),.i (jU.i 3 200),.i (jU.i 4 200),.i (jU.i 5 200),.i (jU.i 6 200),.i (jU.i 7 200),.i (jU.i 8 200),.i (jU.i 9 200)])):=kfz;rw [h,q0,q1,q2,q3,q4,q5,q6,q7,q8,q9]at e;exact zdE e
theorem zLc{a:Att}(hM:MI a.m)(hn:a.n<9223372036854775807/\ -9223372036854775808<=a.n){r0 r1 r2 t:Int}(h0:I32 r0)(h1:I32 r1)(h2:I32 r2)(w:World):Calls PP 88 #[.agg #[.i a.m.a0,.i a.m.a1,.i a.m.a2,.i a.m.a3,.i a.m.a4,.i a.m.a5,.i a.m.a6,.i a.m.a7,.i a.m.a8,.i a.n],.agg #[.int .i32 r0,.int .i32 r1,.int .i32 r2],.i t] w fun e w'=>e= .returned (.tuple #[.agg #[.i (zaF a (yv r0 t) (yv r1 t) (yv r2 t)).m.a0,.i (zaF a (yv r0 t) (yv r1 t) (yv r2 t)).m.a1,.i (zaF a (yv r0 t) (yv r1 t) (yv r2 t)).m.a2,.i (zaF a (yv r0 t) (yv r1 t) (yv r2 t)).m.a3,.i (zaF a (yv r0 t) (yv r1 t) (yv r2 t)).m.a4,.i (zaF a (yv r0 t) (yv r1 t) (yv r2 t)).m.a5,.i (zaF a (yv r0 t) (yv r1 t) (yv r2 t)).m.a6,.i (zaF a (yv r0 t) (yv r1 t) (yv r2 t)).m.a7,.i (zaF a (yv r0 t) (yv r1 t) (yv r2 t)).m.a8,.i (zaF a (yv r0 t) (yv r1 t) (yv r2 t)).n],.bool (zri a.m (yv r0 t) (yv r1 t) (yv r2 t))])/\Below w.heap.size w w':=by
 refine yc.plain (zNN 200) [.agg #[.i a.m.a0,.i a.m.a1,.i a.m.a2,.i a.m.a3,.i a.m.a4,.i a.m.a5,.i a.m.a6,.i a.m.a7,.i a.m.a8,.i a.n],.agg #[.int .i32 r0,.int .i32 r1,.int .i32 r2],.i t] _ ?_ w;obtain⟨h,q0,q1,q2,q3,q4,q5,q6,q7,q8,q9,q10⟩:=zWF 200 (Nat.le_refl _) hM hn h0 h1 h2;have e:zz zrm zBJ yT 200 [.v (.agg #[.i a.m.a0,.i a.m.a1,.i a.m.a2,.i a.m.a3,.i a.m.a4,.i a.m.a5,.i a.m.a6,.i a.m.a7,.i a.m.a8,.i a.n]),.v (.agg #[.int .i32 r0,.int .i32 r1,.int .i32 r2]),.v (.i t)]=some (yT.ok 200 a.m.a0 a.m.a1 a.m.a2 a.m.a3 a.m.a4 a.m.a5 a.m.a6 a.m.a7 a.m.a8 a.n r0 r1 r2 t,.v (.tuple #[.agg #[.i (yT.i 0 200 a.m.a0 a.m.a1 a.m.a2 a.m.a3 a.m.a4 a.m.a5 a.m.a6 a.m.a7 a.m.a8 a.n r0 r1 r2 t),.i (yT.i 1 200 a.m.a0 a.m.a1 a.m.a2 a.m.a3 a.m.a4 a.m.a5 a.m.a6 a.m.a7 a.m.a8 a.n r0 r1 r2 t),.i (yT.i 2 200 a.m.a0 a.m.a1 a.m.a2 a.m.a3 a.m.a4 a.m.a5 a.m.a6 a.m.a7 a.m.a8 a.n r0 r1 r2 t),.i (yT.i 3 200 a.m.a0 a.m.a1 a.m.a2 a.m.a3 a.m.a4 a.m.a5 a.m.a6 a.m.a7 a.m.a8 a.n r0 r1 r2 t),.i (yT.i 4 200 a.m.a0 a.m.a1 a.m.a2 a.m.a3 a.m.a4 a.m.a5 a.m.a6 a.m.a7 a.m.a8 a.n r0 r1 r2 t),.i (yT.i 5 200 a.m.a0 a.m.a1 a.m.a2 a.m.a3 a.m.a4 a.m.a5 a.m.a6 a.m.a7 a.m.a8 a.n r0 r1 r2 t),.i (yT.i 6 200 a.m.a0 a.m.a1 a.m.a2 a.m.a3 a.m.a4 a.m.a5 a.m.a6 a.m.a7 a.m.a8 a.n r0 r1 r2 t),.i (yT.i 7 200 a.m.a0 a.m.a1 a.m.a2 a.m.a3 a.m.a4 a.m.a5 a.m.a6 a.m.a7 a.m.a8 a.n r0 r1 r2 t),.i (yT.i 8 200 a.m.a0 a.m.a1 a.m.a2 a.m.a3 a.m.a4 a.m.a5 a.m.a6 a.m.a7 a.m.a8 a.n r0 r1 r2 t),.i (yT.i 9 200 a.m.a0 a.m.a1 a.m.a2 a.m.a3 a.m.a4 a.m.a5 a.m.a6 a.m.a7 a.m.a8 a.n r0 r1 r2 t)],.bool (yT.b 10 200 a.m.a0 a.m.a1 a.m.a2 a.m.a3 a.m.a4 a.m.a5 a.m.a6 a.m.a7 a.m.a8 a.n r0 r1 r2 t)])):=kfz
 rw [h,q0,q1,q2,q3,q4,q5,q6,q7,q8,q9,q10]at e;exact zdE e
theorem zLd{a:Att}(hM:MI a.m){v0 v1 v2:Int}(h0:I32 v0)(h1:I32 v1)(h2:I32 v2)(w:World):Calls PP 89 #[.agg #[.i a.m.a0,.i a.m.a1,.i a.m.a2,.i a.m.a3,.i a.m.a4,.i a.m.a5,.i a.m.a6,.i a.m.a7,.i a.m.a8,.i a.n],.agg #[.int .i32 v0,.int .i32 v1,.int .i32 v2]] w fun e w'=>e= .returned (.tuple #[.agg #[.i (zh (jA a.m.a0 a.m.a1 a.m.a2 (wid v0) (wid v1) (wid v2))),.i (zh (jA a.m.a3 a.m.a4 a.m.a5 (wid v0) (wid v1) (wid v2))),.i (zh (jA a.m.a6 a.m.a7 a.m.a8 (wid v0) (wid v1) (wid v2)))],.bool (zw (jA a.m.a0 a.m.a1 a.m.a2 (wid v0) (wid v1) (wid v2))||zw (jA a.m.a3 a.m.a4 a.m.a5 (wid v0) (wid v1) (wid v2))||zw (jA a.m.a6 a.m.a7 a.m.a8 (wid v0) (wid v1) (wid v2)))])/\Below w.heap.size w w':=by
 refine yc.plain (zNQ 200) [.agg #[.i a.m.a0,.i a.m.a1,.i a.m.a2,.i a.m.a3,.i a.m.a4,.i a.m.a5,.i a.m.a6,.i a.m.a7,.i a.m.a8,.i a.n],.agg #[.int .i32 v0,.int .i32 v1,.int .i32 v2]] _ ?_ w;obtain⟨h,q0,q1,q2,q3⟩:=zSU 200 (Nat.le_refl _) hM h0 h1 h2;have e:zz zro zpz zba 200 [.v (.agg #[.i a.m.a0,.i a.m.a1,.i a.m.a2,.i a.m.a3,.i a.m.a4,.i a.m.a5,.i a.m.a6,.i a.m.a7,.i a.m.a8,.i a.n]),.v (.agg #[.int .i32 v0,.int .i32 v1,.int .i32 v2])]=some (zba.ok 200 a.m.a0 a.m.a1 a.m.a2 a.m.a3 a.m.a4 a.m.a5 a.m.a6 a.m.a7 a.m.a8 a.n v0 v1 v2,.v (.tuple #[.agg #[.i (zba.i 0 200 a.m.a0 a.m.a1 a.m.a2 a.m.a3 a.m.a4 a.m.a5 a.m.a6 a.m.a7 a.m.a8 a.n v0 v1 v2),.i (zba.i 1 200 a.m.a0 a.m.a1 a.m.a2 a.m.a3 a.m.a4 a.m.a5 a.m.a6 a.m.a7 a.m.a8 a.n v0 v1 v2),.i (zba.i 2 200 a.m.a0 a.m.a1 a.m.a2 a.m.a3 a.m.a4 a.m.a5 a.m.a6 a.m.a7 a.m.a8 a.n v0 v1 v2)],.bool (zba.b 3 200 a.m.a0 a.m.a1 a.m.a2 a.m.a3 a.m.a4 a.m.a5 a.m.a6 a.m.a7 a.m.a8 a.n v0 v1 v2)])):=kfz
 rw [h,q0,q1,q2,q3]at e;exact zdE e
theorem zHA(a:Att)(w:World):Calls PP 86 #[.agg #[.i a.m.a0,.i a.m.a1,.i a.m.a2,.i a.m.a3,.i a.m.a4,.i a.m.a5,.i a.m.a6,.i a.m.a7,.i a.m.a8,.i a.n],.i 0] w fun e w'=>e= .returned (.agg #[.i a.m.a0,.i a.m.a3,.i a.m.a6])/\Below w.heap.size w w':=by
 refine yc.plain (zHj 200) [.agg #[.i a.m.a0,.i a.m.a1,.i a.m.a2,.i a.m.a3,.i a.m.a4,.i a.m.a5,.i a.m.a6,.i a.m.a7,.i a.m.a8,.i a.n],.i 0] _ ?_ w;obtain⟨h,q0,q1,q2⟩:=zEl 200 (Nat.le_refl _) a.m a.n;have e:zz zl7 zpA za5 200 [.v (.agg #[.i a.m.a0,.i a.m.a1,.i a.m.a2,.i a.m.a3,.i a.m.a4,.i a.m.a5,.i a.m.a6,.i a.m.a7,.i a.m.a8,.i a.n]),.v (.i 0)]=some (za5.ok 200 a.m.a0 a.m.a1 a.m.a2 a.m.a3 a.m.a4 a.m.a5 a.m.a6 a.m.a7 a.m.a8 a.n 0,.v (.agg #[.i (za5.i 0 200 a.m.a0 a.m.a1 a.m.a2 a.m.a3 a.m.a4 a.m.a5 a.m.a6 a.m.a7 a.m.a8 a.n 0),.i (za5.i 1 200 a.m.a0 a.m.a1 a.m.a2 a.m.a3 a.m.a4 a.m.a5 a.m.a6 a.m.a7 a.m.a8 a.n 0),.i (za5.i 2 200 a.m.a0 a.m.a1 a.m.a2 a.m.a3 a.m.a4 a.m.a5 a.m.a6 a.m.a7 a.m.a8 a.n 0)])):=kfz
 rw [h,q0,q1,q2]at e;exact zdE e
theorem zph{a:Att}(hM:MI a.m)(w:World):Calls PP 39 #[.agg #[.i a.m.a0,.i a.m.a1,.i a.m.a2,.i a.m.a3,.i a.m.a4,.i a.m.a5,.i a.m.a6,.i a.m.a7,.i a.m.a8,.i a.n]] w fun e w'=>e= .returned (.int .u32 (zcQ a.m.a3 a.m.a0))/\Below w.heap.size w w':=by
 refine yc.plain (zDn 200) [.agg #[.i a.m.a0,.i a.m.a1,.i a.m.a2,.i a.m.a3,.i a.m.a4,.i a.m.a5,.i a.m.a6,.i a.m.a7,.i a.m.a8,.i a.n]] _ ?_ w;obtain⟨h,q0⟩:=zNO 200 (Nat.le_refl _) hM;have e:zz zjU zmy zcX 200 [.v (.agg #[.i a.m.a0,.i a.m.a1,.i a.m.a2,.i a.m.a3,.i a.m.a4,.i a.m.a5,.i a.m.a6,.i a.m.a7,.i a.m.a8,.i a.n])]=some (zcX.ok 200 a.m.a0 a.m.a1 a.m.a2 a.m.a3 a.m.a4 a.m.a5 a.m.a6 a.m.a7 a.m.a8 a.n,.v (.int .u32 (zcX.i 0 200 a.m.a0 a.m.a1 a.m.a2 a.m.a3 a.m.a4 a.m.a5 a.m.a6 a.m.a7 a.m.a8 a.n))):=kfz;rw [h,q0]at e;exact zdE e
structure NS where
 g0:Int
 g1:Int
 g2:Int
 v0:Int
 v1:Int
 v2:Int
 p0:Int
 p1:Int
 p2:Int
 drift:Int
 a:Att
 start:Int
 last:Int
 now:Int
 cut:Bool
abbrev zYr(s:NS)(mb:Nat):Array Value:=#[.i s.g0,.i s.g1,.i s.g2,.i s.v0,.i s.v1,.i s.v2,.i s.p0,.i s.p1,.i s.p2,.i s.drift,.i s.a.m.a0,.i s.a.m.a1,.i s.a.m.a2,.i s.a.m.a3,.i s.a.m.a4,.i s.a.m.a5,.i s.a.m.a6,.i s.a.m.a7,.i s.a.m.a8,.i s.a.n,.map (some mb),.i s.start,.i s.last,.i s.now,.bool s.cut]
def jc(w:World)(nb mb:Nat)(s:NS):Prop:=w.heap[nb]? =some (.cells (zYr s mb) 62 (0,0))
structure NS.ok (s:NS):Prop where
 g0:zr s.g0
 g1:zr s.g1
 g2:zr s.g2
 v0:zr s.v0
 v1:zr s.v1
 v2:zr s.v2
 p0:zr s.p0
 p1:zr s.p1
 p2:zr s.p2
 m:MI s.a.m
 n:0<=s.a.n/\s.a.n<=15
structure Chg (nb:Nat) (w w':World):Prop where
 os:w'.os=w.os
 tape:w'.tape=w.tape
 output:w'.output=w.output
 size:w.heap.size<=w'.heap.size
 block:∀k,k<w.heap.size->k≠nb->w'.heap[k]? =w.heap[k]?
theorem Chg.of{nb:Nat}{w w':World}(h:Below w.heap.size w w'):Chg nb w w':=⟨h.os,h.tape,h.output,h.size,fun k hk _=>h.block k hk⟩
theorem Chg.refl(nb:Nat)(w:World):Chg nb w w:=⟨rfl,rfl,rfl,Nat.le_refl _,fun _ _ _=>rfl⟩
theorem Chg.trans{nb:Nat}{w w' w'':World}(h:Chg nb w w')(k:Chg nb w' w''):Chg nb w w'':=
 ⟨k.os.trans h.os,k.tape.trans h.tape,k.output.trans h.output,Nat.le_trans h.size k.size,fun i hi hn=>(k.block i (Nat.lt_of_lt_of_le hi h.size) hn).trans (h.block i hi hn)⟩
theorem Chg.setCell{nb:Nat}{w w':World}(h:Chg nb w w')(o:Nat)(v:Value):Chg nb w (w'.setCell (.q nb o) v):=
 ⟨h.os,h.tape,h.output,by have:=h.size;simpa using this,fun k hk hn=>(Below.heap_setCell w' (.q nb o) v k (fun e=>hn e)).trans (h.block k hk hn)⟩
theorem Chg.below{nb:Nat}{w w' w'':World}(h:Chg nb w w')(k:Below w'.heap.size w' w''):Chg nb w w'':=h.trans (Chg.of k)
theorem Chg.alloc{nb:Nat}{w w':World}(h:Chg nb w w')(o:Obj):Chg nb w (w'.alloc o):=h.trans (Chg.of ((Below.refl _ _).alloc (Nat.le_refl _) _))
theorem za{W:World}{b o:Nat}{cs:Array Value}{ty:TypeId}(h:W.heap[b]? =some (.cells cs ty (0,0))):W.cell? (.q b o)=cs[o]? :=cell_of_row W b o cs ty (0,0) h
theorem zE{W:World}{b o:Nat}{cs:Array Value}{ty:TypeId}(h:W.heap[b]? =some (.cells cs ty (0,0)))(_ho:o<cs.size):W.frozen? (.q b o)=false:=by
 simp [World.frozen?,h]
theorem zf{W:World}{b o:Nat}{cs:Array Value}{ty:TypeId}{v:Value}(h:W.heap[b]? =some (.cells cs ty (0,0))):
 (W.setCell (.q b o) v).heap[b]? =some (.cells (cs.setIfInBounds o v) ty (0,0)):=by
 simp only [World.setCell];rw [Array.getElem?_modify];simp [h]
theorem jc.lt{w:World}{nb mb:Nat}{s:NS}(h:jc w nb mb s):nb<w.heap.size:=(zy h)
theorem jc.below{w w':World}{nb mb:Nat}{s:NS}(h:jc w nb mb s)(hb:Below w.heap.size w w'):jc w' nb mb s:=(hb.block nb h.lt).trans h
def zSV(w:World)(b:Nat)(bs:List Bool):Prop:=∀j x,bs[j]? =some x->w.cell? (.q b j)=some (.bool x)
def zrA:List Bool->Int->Int
 |[],_=> -1
 |true::_,i=>i
 |false::r,i=>zrA r (i+1)
theorem zLe{bs:List Bool}{j:Nat}{x:Bool}(h:bs[j]? =some x)(i:Int):zrA (bs.drop j) i=if x=true then i else zrA (bs.drop (j+1)) (i+1):=by
 obtain⟨hlt,hz⟩:=List.getElem?_eq_some_iff.1 h;rw [List.drop_eq_getElem_cons hlt,hz];cases x<;>rfl
theorem zBf:∀(bs:List Bool) (i:Int),0<=i->(decide (0<=zrA bs i)=bs.any id)
 |[],_,_=>rfl
 |true::r,i,h=>by simp [zrA,h]
 |false::r,i,h=>by
  have:=zBf r (i+1) zc;exact this
theorem zQ3(bs:List Bool)(hn:bs.length<=1000)(b cap:Nat)(w:World)(hb:zSV w b bs):
 Calls PP 141 #[.slice (some (.q b 0)) bs.length cap,.bool true] w fun e w'=>e= .returned (.i (zrA bs 0))/\w'=w:=by
 go_enter Proofs.Tryz.func141,Proofs.Tryz.ntmps141
 go_wp2;go_loopw [8] (fun i wr=>∃j:Nat,j<=bs.length/\i= .i j/\wr=w/\zrA (bs.drop j) j=zrA bs 0) (fun i _=>bs.length-(intOf i).toNat)
 case atStart=>exact⟨0,Nat.zero_le _,rfl,rfl,rfl⟩
 case round=>
  obtain⟨j,hj,rfl,rfl,hst⟩:=hrel;by_cases hlt:j<bs.length
  ·obtain⟨x,hx⟩:∃x,bs[j]? =some x:=⟨_,List.getElem?_eq_getElem hlt⟩
   have hc:=hb j x hx;rw [zLe hx]at hst;cases x with
   |true=>
    rw [if_pos rfl]at hst;replace hst:=hst.symm;go_wp2;go_ret;simp [hst]
   |false=>
    rw [if_neg jq]at hst;go_wp2;exact⟨⟨j+1,zc,jq,by trivial,by push_cast;exact hst⟩,by simp [intOf];omega⟩
  ·obtain rfl:j=bs.length:=zc
   rw [List.drop_length]at hst;replace hst:zrA bs 0= -1:=hst.symm;go_wp2;go_ret;simp [hst]
theorem zNU(bs:List Bool)(hn:bs.length<=1000)(b cap:Nat)(w:World)(hb:zSV w b bs):
 Calls PP 100 #[.slice (some (.q b 0)) bs.length cap,.bool true] w fun e w'=>e= .returned (.bool (bs.any id))/\w'=w:=by
 go_enter Proofs.Tryz.func100,Proofs.Tryz.ntmps100
 have hf:=zBf bs 0 (Int.le_refl _);have hi:=zQ3 bs hn b cap w hb;go_wp2_with(go_at_call 141;refine hi.mono ?_;clear hi;rintro e w' ⟨rfl,rfl⟩)
 go_ret;simp
theorem zgU(bs:List Bool)(hn:bs.length<=1000)(b cap nb mb:Nat)(s:NS)(w:World)(hb:zSV w b bs)(hN:jc w nb mb s):
 Calls PP 53 #[.pointer (some (.q nb 0)),.slice (some (.q b 0)) bs.length cap] w fun e w'=>e= .returned (.tuple #[])/\jc w' nb mb {s with cut:=s.cut||bs.any id}/\Chg nb w w':=by
 go_enter Proofs.Tryz.func53,Proofs.Tryz.ntmps53
 have c24:w.cell? (.q nb 24)=some (.bool s.cut):=za hN;have f24:w.frozen? (.q nb 24)=false:=zE hN jq;have hi:=zNU bs hn b cap w hb;have hN':=hN;unfold jc at hN';cases hc:s.cut with
 |true=>
  rw [hc]at c24;clear hN;go_wp2;go_end0;refine⟨rfl,?_,(Chg.refl nb w).setCell 24 _⟩;exact zf hN'
 |false=>
  rw [hc]at c24;clear hN;go_wp2_with(go_at_call 100;refine hi.mono ?_;clear hi;rintro e w' ⟨rfl,rfl⟩)
  go_end0;refine⟨rfl,?_,(Chg.refl nb _).setCell 24 _⟩;exact zf hN'
end Go.Xv
namespace Go.Xv
def nVz:List Value->Nat->Option Value
 |[],_=>none
 |a::_,0=>some a
 |_::r,n+1=>nVz r n
theorem zSW:∀(l:List Value) (n:Nat),nVz l n=l[n]?
 |[],_=>rfl
 |_::_,0=>rfl
 |_::r,n+1=>zSW r n
theorem zi{W:World}{b:Nat}{cs:Array Value}{ty:TypeId}{v:Value}(o:Nat)(h:W.heap[b]? =some (.cells cs ty (0,0)))(hv:nVz cs.toList o=some v):W.cell? ⟨b,o,none⟩=some v:=(za h).trans (by rw [<-hv,zSW];simp)
theorem zC{W:World}{b:Nat}{cs:Array Value}{ty:TypeId}(o:Nat)(h:W.heap[b]? =some (.cells cs ty (0,0)))(ho:o<cs.size:=by simp):W.frozen? ⟨b,o,none⟩=false:=zE h ho
end Go.Xv
namespace Go.Xv
open Go.RowKit
def spZ(s:NS):Int:=jA s.v0 s.v1 s.v2 s.a.m.a0 s.a.m.a3 s.a.m.a6
theorem zEm{w:World}{x:Bool}{ty:TypeId}:zSV (w.alloc (.cells #[.bool x] ty)) w.heap.size [x]:=by
 intro j y h;match j,h with
 |0,h=>
  simp only [List.getElem?_cons_zero,Option.some.injEq]at h;subst h;exact za (heap_alloc_new w _)
 |j+1,h=>simp at h
theorem zs5(nb mb:Nat)(s:NS)(hs:s.ok)(w:World)(hN:jc w nb mb s):
 Calls PP 41 #[.pointer (some (.q nb 0))] w fun e w'=>e= .returned (.i (zh (spZ s)))/\jc w' nb mb {s with cut:=s.cut||zw (spZ s)}/\Chg nb w w':=by
 go_enter Proofs.Tryz.func41,Proofs.Tryz.ntmps41
 have hS:∀w',Below w.heap.size w w'->w'.cell? (.q nb 3)=some (.i s.v0)/\w'.cell? (.q nb 4)=some (.i s.v1)/\w'.cell? (.q nb 5)=some (.i s.v2)/\w'.cell? (.q nb 10)=some (.i s.a.m.a0)/\w'.cell? (.q nb 11)=some (.i s.a.m.a1)/\w'.cell? (.q nb 12)=some (.i s.a.m.a2)/\w'.cell? (.q nb 13)=some (.i s.a.m.a3)/\w'.cell? (.q nb 14)=some (.i s.a.m.a4)/\w'.cell? (.q nb 15)=some (.i s.a.m.a5)/\w'.cell? (.q nb 16)=some (.i s.a.m.a6)/\w'.cell? (.q nb 17)=some (.i s.a.m.a7)/\w'.cell? (.q nb 18)=some (.i s.a.m.a8)/\w'.cell? (.q nb 19)=some (.i s.a.n):=fun w' hB=>⟨(hB.cell (p:=(.q nb _)) hN.lt).trans (za hN),(hB.cell (p:=(.q nb _)) hN.lt).trans (za hN),(hB.cell (p:=(.q nb _)) hN.lt).trans (za hN),(hB.cell (p:=(.q nb _)) hN.lt).trans (za hN),(hB.cell (p:=(.q nb _)) hN.lt).trans (za hN),(hB.cell (p:=(.q nb _)) hN.lt).trans (za hN),(hB.cell (p:=(.q nb _)) hN.lt).trans (za hN),(hB.cell (p:=(.q nb _)) hN.lt).trans (za hN),(hB.cell (p:=(.q nb _)) hN.lt).trans (za hN),(hB.cell (p:=(.q nb _)) hN.lt).trans (za hN),(hB.cell (p:=(.q nb _)) hN.lt).trans (za hN),(hB.cell (p:=(.q nb _)) hN.lt).trans (za hN),(hB.cell (p:=(.q nb _)) hN.lt).trans (za hN)⟩
 have hd:Below w.heap.size w w.drew:=⟨rfl,rfl,rfl,Nat.le_refl _,fun _ _=>rfl⟩;obtain⟨i0,i1,i2,i3,i4,i5,i6,i7,i8⟩:=hs.m;have ht:=zHA s.a;have hdot:=fun w=>zNT hs.v0 hs.v1 hs.v2 i0 i3 i6 w
 rw [show jA s.v0 s.v1 s.v2 s.a.m.a0 s.a.m.a3 s.a.m.a6=spZ s from rfl]at hdot;go_wp2;go_region_held3(fun w'=>w'.cell? (.q nb 3)=some (.i s.v0)/\w'.cell? (.q nb 4)=some (.i s.v1)/\w'.cell? (.q nb 5)=some (.i s.v2)/\w'.cell? (.q nb 10)=some (.i s.a.m.a0)/\w'.cell? (.q nb 11)=some (.i s.a.m.a1)/\w'.cell? (.q nb 12)=some (.i s.a.m.a2)/\w'.cell? (.q nb 13)=some (.i s.a.m.a3)/\w'.cell? (.q nb 14)=some (.i s.a.m.a4)/\w'.cell? (.q nb 15)=some (.i s.a.m.a5)/\w'.cell? (.q nb 16)=some (.i s.a.m.a6)/\w'.cell? (.q nb 17)=some (.i s.a.m.a7)/\w'.cell? (.q nb 18)=some (.i s.a.m.a8)/\w'.cell? (.q nb 19)=some (.i s.a.n)) (first|exact hS _ hd|exact hS _ hB1|exact hS _ hB2)
  (first
    |(go_at_call 86;refine(ht _).mono ?_;clear ht;rintro e w1 ⟨rfl,hB1⟩;replace hB1:Below w.heap.size w w1:=hd.trans hB1)
    |(go_at_call 85;refine(hdot _).mono ?_;clear hdot;rintro e w2 ⟨rfl,hB2⟩;replace hB2:Below w.heap.size w w2:=hB1.trans (hB2.mono hB1.size)))
 have hN2:=hN.below hB2;have hm:=zgU [zw (spZ s)] jq w2.heap.size 1 nb mb s _ (zEm (ty:=4)) (hN2.below ((Below.refl _ w2).alloc (Nat.le_refl _) _));clear hS hN;go_wp2_with(go_at_call 53;refine hm.mono ?_;clear hm;rintro e w3 ⟨rfl,hN3,hC3⟩)
 go_ret;refine⟨rfl,?_,?_⟩
 ·simpa using hN3
 ·exact((Chg.of hB2).alloc _).trans hC3
structure V3 where
 x:Int
 y:Int
 z:Int
def zwl(a b:V3):V3:=⟨zh (a.x+b.x),zh (a.y+b.y),zh (a.z+b.z)⟩
def zeg(a b:V3):Bool:=zw (a.x+b.x)||zw (a.y+b.y)||zw (a.z+b.z)
def zVQ(a b:V3):V3:=⟨zh (a.x-b.x),zh (a.y-b.y),zh (a.z-b.z)⟩
def zs6(a b:V3):Bool:=zw (a.x-b.x)||zw (a.y-b.y)||zw (a.z-b.z)
def zSX(a:V3)(k:Int):V3:=⟨zh (pr a.x k),zh (pr a.y k),zh (pr a.z k)⟩
def ziH(a:V3)(k:Int):Bool:=zw (pr a.x k)||zw (pr a.y k)||zw (pr a.z k)
def zbq(a:Att)(x:V3):V3:=⟨zh (jA a.m.a0 a.m.a1 a.m.a2 (wid x.x) (wid x.y) (wid x.z)),zh (jA a.m.a3 a.m.a4 a.m.a5 (wid x.x) (wid x.y) (wid x.z)),zh (jA a.m.a6 a.m.a7 a.m.a8 (wid x.x) (wid x.y) (wid x.z))⟩
def zwm(a:Att)(x:V3):Bool:=zw (jA a.m.a0 a.m.a1 a.m.a2 (wid x.x) (wid x.y) (wid x.z))||zw (jA a.m.a3 a.m.a4 a.m.a5 (wid x.x) (wid x.y) (wid x.z))||zw (jA a.m.a6 a.m.a7 a.m.a8 (wid x.x) (wid x.y) (wid x.z))
structure V3.I (a:V3):Prop where
 x:zr a.x
 y:zr a.y
 z:zr a.z
structure V3.W (a:V3):Prop where
 x:I32 a.x
 y:I32 a.y
 z:I32 a.z
theorem zfH(a b:V3):(zwl a b).I:=⟨jk _,jk _,jk _⟩
theorem ztC(a b:V3):(zVQ a b).I:=⟨jk _,jk _,jk _⟩
theorem zgA(a:V3)(k:Int):(zSX a k).I:=⟨jk _,jk _,jk _⟩
theorem ztD(a:Att)(x:V3):(zbq a x).I:=⟨jk _,jk _,jk _⟩
def dtZ(t:Int):Int:=zld (t*4294967296) 429496729600
def NS.g(s:NS):V3:=⟨s.g0,s.g1,s.g2⟩
def NS.v(s:NS):V3:=⟨s.v0,s.v1,s.v2⟩
def NS.p(s:NS):V3:=⟨s.p0,s.p1,s.p2⟩
noncomputable def jd(s:NS)(t:Int)(r:V3):Att:=zaF s.a (yv r.x t) (yv r.y t) (yv r.z t)
noncomputable def stQ(s:NS)(t:Int)(r x:V3):V3:=zVQ (zbq (jd s t r) x) s.g
noncomputable def stM(s:NS)(t:Int)(r x:V3):V3:=zSX (stQ s t r x) (dtZ t)
noncomputable def stV(s:NS)(t:Int)(r x:V3):V3:=zwl s.v (stM s t r x)
noncomputable def stY(s:NS)(t:Int)(r x:V3):V3:=zSX (stV s t r x) (dtZ t)
noncomputable def stP(s:NS)(t:Int)(r x:V3):V3:=zwl s.p (stY s t r x)
noncomputable def zXY(s:NS)(t:Int)(r x:V3):List Bool:=[zri s.a.m (yv r.x t) (yv r.y t) (yv r.z t),zwm (jd s t r) x,zs6 (zbq (jd s t r) x) s.g,ziH (stQ s t r x) (dtZ t),zeg s.v (stM s t r x),ziH (stV s t r x) (dtZ t),zeg s.p (stY s t r x)]
noncomputable def zEn(s:NS)(t:Int)(r x:V3):NS:=
 ⟨s.g0,s.g1,s.g2,(stV s t r x).x,(stV s t r x).y,(stV s t r x).z,(stP s t r x).x,(stP s t r x).y,(stP s t r x).z,s.drift,jd s t r,s.start,s.last,s.now,s.cut||(zXY s t r x).any id⟩
end Go.Xv
namespace Go.Xv
abbrev v3z(a:V3):Array Value:=#[.i a.x,.i a.y,.i a.z]
abbrev z3z:Array Value:=#[.i 0,.i 0,.i 0]
end Go.Xv
namespace Go.Xv
open Go.RowKit
theorem zbi{W:World}{b:Nat}{ty:TypeId}{x0 x1 x2 y0 y1 y2:Value}(h:W.heap[b]? =some (.cells #[y0,y1,y2] ty (0,0))):(((W.setCell (.q b 0) x0).setCell (.q b 1) x1).setCell (.q b 2) x2).heap[b]? =some (.cells #[x0,x1,x2] ty (0,0)):=by
 replace h:=zf (o:=0) (v:=x0) h;simp only [sLz]at h;replace h:=zf (o:=1) (v:=x1) h;simp only [sLz]at h;replace h:=zf (o:=2) (v:=x2) h;simp only [sLz]at h;exact h
theorem zay{B:Nat}{w W:World}{b:Nat}{x0 x1 x2:Value}(h:Below B w W)(hb:B<=b):Below B w (((W.setCell (.q b 0) x0).setCell (.q b 1) x1).setCell (.q b 2) x2):=by
 repeat' (refine Below.setCell ?_ ?_ _)
 all_goals first|exact h|exact hb
theorem zys{W:World}{b:Nat}{ty:TypeId}{x0 x1 x2 x3 x4 x5 x6 x7 x8 x9 y0 y1 y2 y3 y4 y5 y6 y7 y8 y9:Value}(h:W.heap[b]? =some (.cells #[y0,y1,y2,y3,y4,y5,y6,y7,y8,y9] ty (0,0))):((((((((((W.setCell (.q b 0) x0).setCell (.q b 1) x1).setCell (.q b 2) x2).setCell (.q b 3) x3).setCell (.q b 4) x4).setCell (.q b 5) x5).setCell (.q b 6) x6).setCell (.q b 7) x7).setCell (.q b 8) x8).setCell (.q b 9) x9).heap[b]? =some (.cells #[x0,x1,x2,x3,x4,x5,x6,x7,x8,x9] ty (0,0)):=by
 replace h:=zf (o:=0) (v:=x0) h;simp only [sLz]at h;replace h:=zf (o:=1) (v:=x1) h;simp only [sLz]at h;replace h:=zf (o:=2) (v:=x2) h;simp only [sLz]at h;replace h:=zf (o:=3) (v:=x3) h;simp only [sLz]at h;replace h:=zf (o:=4) (v:=x4) h;simp only [sLz]at h;replace h:=zf (o:=5) (v:=x5) h;simp only [sLz]at h;replace h:=zf (o:=6) (v:=x6) h;simp only [sLz]at h;replace h:=zf (o:=7) (v:=x7) h;simp only [sLz]at h;replace h:=zf (o:=8) (v:=x8) h;simp only [sLz]at h;replace h:=zf (o:=9) (v:=x9) h;simp only [sLz]at h;exact h
theorem zjY{B:Nat}{w W:World}{b:Nat}{x0 x1 x2 x3 x4 x5 x6 x7 x8 x9:Value}(h:Below B w W)(hb:B<=b):Below B w ((((((((((W.setCell (.q b 0) x0).setCell (.q b 1) x1).setCell (.q b 2) x2).setCell (.q b 3) x3).setCell (.q b 4) x4).setCell (.q b 5) x5).setCell (.q b 6) x6).setCell (.q b 7) x7).setCell (.q b 8) x8).setCell (.q b 9) x9):=by
 repeat' (refine Below.setCell ?_ ?_ _)
 all_goals first|exact h|exact hb
theorem zEo(w:World):w.drew.heap=w.heap:=rfl
theorem Chg.drew{nb:Nat}{w w':World}(h:Chg nb w w'):Chg nb w w'.drew:=⟨h.os,h.tape,h.output,h.size,h.block⟩
theorem zXZ(bs:List Bool)(w:World)(ty:TypeId):zSV (w.alloc (.cells (bs.map Value.bool).toArray ty)) w.heap.size bs:=by
 intro j y h;rw [za (heap_alloc_new w _)];simp [h]
theorem zQ4{W:World}{b:Nat}{ty:TypeId}{x0 x1 x2 x3 x4 x5 x6 x7 x8 x9 x10 x11 x12 x13 x14 x15 x16 x17 x18 x19 x20 x21 x22 x23 x24 y3 y4 y5 y6 y7 y8 y10 y11 y12 y13 y14 y15 y16 y17 y18 y19:Value}(h:W.heap[b]? =some (.cells #[x0,x1,x2,x3,x4,x5,x6,x7,x8,x9,x10,x11,x12,x13,x14,x15,x16,x17,x18,x19,x20,x21,x22,x23,x24] ty (0,0))):((((((((((((((((W.setCell (.q b 10) y10).setCell (.q b 11) y11).setCell (.q b 12) y12).setCell (.q b 13) y13).setCell (.q b 14) y14).setCell (.q b 15) y15).setCell (.q b 16) y16).setCell (.q b 17) y17).setCell (.q b 18) y18).setCell (.q b 19) y19).setCell (.q b 3) y3).setCell (.q b 4) y4).setCell (.q b 5) y5).setCell (.q b 6) y6).setCell (.q b 7) y7).setCell (.q b 8) y8).heap[b]? =some (.cells #[x0,x1,x2,y3,y4,y5,y6,y7,y8,x9,y10,y11,y12,y13,y14,y15,y16,y17,y18,y19,x20,x21,x22,x23,x24] ty (0,0)):=by
 replace h:=zf (o:=10) (v:=y10) h;simp only [sLz]at h;replace h:=zf (o:=11) (v:=y11) h;simp only [sLz]at h;replace h:=zf (o:=12) (v:=y12) h;simp only [sLz]at h;replace h:=zf (o:=13) (v:=y13) h;simp only [sLz]at h;replace h:=zf (o:=14) (v:=y14) h;simp only [sLz]at h;replace h:=zf (o:=15) (v:=y15) h;simp only [sLz]at h;replace h:=zf (o:=16) (v:=y16) h;simp only [sLz]at h;replace h:=zf (o:=17) (v:=y17) h;simp only [sLz]at h;replace h:=zf (o:=18) (v:=y18) h;simp only [sLz]at h;replace h:=zf (o:=19) (v:=y19) h;simp only [sLz]at h;replace h:=zf (o:=3) (v:=y3) h;simp only [sLz]at h;replace h:=zf (o:=4) (v:=y4) h
 simp only [sLz]at h;replace h:=zf (o:=5) (v:=y5) h;simp only [sLz]at h;replace h:=zf (o:=6) (v:=y6) h;simp only [sLz]at h;replace h:=zf (o:=7) (v:=y7) h;simp only [sLz]at h;replace h:=zf (o:=8) (v:=y8) h;simp only [sLz]at h;exact h
theorem zQ5{W:World}{nb mb:Nat}{s:NS}(h:jc W nb mb s)(A:Att)(v p:V3):jc ((((((((((((((((W.setCell (.q nb 10) (.i A.m.a0)).setCell (.q nb 11) (.i A.m.a1)).setCell (.q nb 12) (.i A.m.a2)).setCell (.q nb 13) (.i A.m.a3)).setCell (.q nb 14) (.i A.m.a4)).setCell (.q nb 15) (.i A.m.a5)).setCell (.q nb 16) (.i A.m.a6)).setCell (.q nb 17) (.i A.m.a7)).setCell (.q nb 18) (.i A.m.a8)).setCell (.q nb 19) (.i A.n)).setCell (.q nb 3) (.i v.x)).setCell (.q nb 4) (.i v.y)).setCell (.q nb 5) (.i v.z)).setCell (.q nb 6) (.i p.x)).setCell (.q nb 7) (.i p.y)).setCell (.q nb 8) (.i p.z)).drew nb mb ⟨s.g0,s.g1,s.g2,v.x,v.y,v.z,p.x,p.y,p.z,s.drift,A,s.start,s.last,s.now,s.cut⟩:=by
 unfold jc at*
 rw [zEo];exact zQ4 (y3:=.i v.x) (y4:=.i v.y) (y5:=.i v.z) (y6:=.i p.x) (y7:=.i p.y) (y8:=.i p.z) (y10:=.i A.m.a0) (y11:=.i A.m.a1) (y12:=.i A.m.a2) (y13:=.i A.m.a3) (y14:=.i A.m.a4) (y15:=.i A.m.a5) (y16:=.i A.m.a6) (y17:=.i A.m.a7) (y18:=.i A.m.a8) (y19:=.i A.n) h
theorem zNV{s:NS}(hs:s.ok)(t:Int)(r:V3):MI (jd s t r).m:=by
 have z:zr 0:=by unfold zr;omega
 have o:zr 4294967296:=by unfold zr;omega
 have hi:∀{c:Prop} [Decidable c] {a b:Int},zr a->zr b->zr (if c then a else b):=fun ha hb=>by
  split
  ·exact ha
  ·exact hb
 unfold jd zaF;split
 ·exact⟨hi (ziG _ _ _ _) o,hi (ziG _ _ _ _) z,hi (ziG _ _ _ _) z,hi (ziG _ _ _ _) z,hi (ziG _ _ _ _) o,hi (ziG _ _ _ _) z,hi (jk _) z,hi (jk _) z,hi (jk _) o⟩
 ·exact zwi (zwi (zwi hs.m _ _) _ _) _ _
theorem zNW(nb mb:Nat)(s:NS)(hs:s.ok)(t:Int)(ht0:0<=t)(ht1:t<=65535)(rd:Array Value)(r x:V3)(hr:r.W)(hx:x.W)
 (d1:rd[1]? =some (.int .i32 r.x)) (d2:rd[2]? =some (.int .i32 r.y)) (d3:rd[3]? =some (.int .i32 r.z)) (d4:rd[4]? =some (.int .i32 x.x)) (d5:rd[5]? =some (.int .i32 x.y)) (d6:rd[6]? =some (.int .i32 x.z)) (w:World) (hN:jc w nb mb s):
 Calls PP 45 #[.pointer (some (.q nb 0)),.i t,.agg rd] w fun e w'=>e= .returned (.tuple #[])/\jc w' nb mb (zEn s t r x)/\Chg nb w w':=by
 go_enter Proofs.Tryz.func45,Proofs.Tryz.ntmps45
 have hwt:wrap .i64 (t*4294967296)=t*4294967296:=by simp [wrap,IntKind.signed,IntKind.bits];omega
 have hdiv:=fun w=>zQ2 (a:=t*4294967296) (b:=429496729600) (by unfold zr;omega) (by unfold zr;omega) w
 rw [show zld (t*4294967296) 429496729600=dtZ t from rfl]at hdiv;have hstep:=fun w=>zLc hs.m ⟨by have:=hs.n;omega,by have:=hs.n;omega⟩ (t:=t) hr.x hr.y hr.z w
 rw [show zaF s.a (yv r.x t) (yv r.y t) (yv r.z t)=jd s t r from rfl]at hstep;go_wp2_with(go_at_call 87;refine(hdiv _).mono ?_;clear hdiv;rintro e w1 ⟨rfl,hB1⟩)
 have h1:Below w.heap.size w w1:=((Below.refl _ w).alloc (Nat.le_refl _) _).trans (hB1.mono jq);have bx1:w1.heap[w.heap.size]? =some (.cells rd 50 (0,0)):=(hB1.block _ jq).trans (heap_alloc_new w _);have hN1:=hN.below h1;have hnw:=hN.lt;clear hB1 hwt;have hS2:∀w',Below w1.heap.size w1 w'->w'.cell? (.q nb 10)=some (.i s.a.m.a0)/\w'.cell? (.q nb 11)=some (.i s.a.m.a1)/\w'.cell? (.q nb 12)=some (.i s.a.m.a2)/\w'.cell? (.q nb 13)=some (.i s.a.m.a3)/\w'.cell? (.q nb 14)=some (.i s.a.m.a4)/\w'.cell? (.q nb 15)=some (.i s.a.m.a5)/\w'.cell? (.q nb 16)=some (.i s.a.m.a6)/\w'.cell? (.q nb 17)=some (.i s.a.m.a7)/\w'.cell? (.q nb 18)=some (.i s.a.m.a8)/\w'.cell? (.q nb 19)=some (.i s.a.n)/\w'.cell? (.q w.heap.size 1)=some (.int .i32 r.x)/\w'.cell? (.q w.heap.size 2)=some (.int .i32 r.y)/\w'.cell? (.q w.heap.size 3)=some (.int .i32 r.z):=fun w' hB=>⟨(hB.cell (p:=(.q nb _)) hN1.lt).trans (za hN1),(hB.cell (p:=(.q nb _)) hN1.lt).trans (za hN1),(hB.cell (p:=(.q nb _)) hN1.lt).trans (za hN1),(hB.cell (p:=(.q nb _)) hN1.lt).trans (za hN1),(hB.cell (p:=(.q nb _)) hN1.lt).trans (za hN1),(hB.cell (p:=(.q nb _)) hN1.lt).trans (za hN1),(hB.cell (p:=(.q nb _)) hN1.lt).trans (za hN1),(hB.cell (p:=(.q nb _)) hN1.lt).trans (za hN1),(hB.cell (p:=(.q nb _)) hN1.lt).trans (za hN1),(hB.cell (p:=(.q nb _)) hN1.lt).trans (za hN1),(hB.cell (p:=(.q w.heap.size _)) (zy bx1)).trans ((za bx1).trans d1),(hB.cell (p:=(.q w.heap.size _)) (zy bx1)).trans ((za bx1).trans d2),(hB.cell (p:=(.q w.heap.size _)) (zy bx1)).trans ((za bx1).trans d3)⟩
 have hd2:Below w1.heap.size w1 w1.drew:=⟨rfl,rfl,rfl,Nat.le_refl _,fun _ _=>rfl⟩;have hA2:∀o,Below w1.heap.size w1 (w1.alloc o).drew:=fun o=>hd2.alloc (Nat.le_refl _) o
 have hc2:=fun W (hW:Below w1.heap.size w1 W)=>(hstep W).mono fun e w' (h:_/\_)=>(⟨h.1,hW.trans (h.2.mono hW.size),h.2⟩:_/\Below w1.heap.size w1 w'/\Below W.heap.size W w')
 go_cut [8,9] (fun va vb w'=>∃l,va= .pointer (some (.q l 0))/\vb= .bool (zri s.a.m (yv r.x t) (yv r.y t) (yv r.z t))/\w'.heap[l]? =some (.cells #[.i (jd s t r).m.a0,.i (jd s t r).m.a1,.i (jd s t r).m.a2,.i (jd s t r).m.a3,.i (jd s t r).m.a4,.i (jd s t r).m.a5,.i (jd s t r).m.a6,.i (jd s t r).m.a7,.i (jd s t r).m.a8,.i (jd s t r).n] 59 (0,0))/\w1.heap.size<=l/\Below w1.heap.size w1 w')
 case first=>
  go_region_held3(fun w'=>w'.cell? (.q nb 10)=some (.i s.a.m.a0)/\w'.cell? (.q nb 11)=some (.i s.a.m.a1)/\w'.cell? (.q nb 12)=some (.i s.a.m.a2)/\w'.cell? (.q nb 13)=some (.i s.a.m.a3)/\w'.cell? (.q nb 14)=some (.i s.a.m.a4)/\w'.cell? (.q nb 15)=some (.i s.a.m.a5)/\w'.cell? (.q nb 16)=some (.i s.a.m.a6)/\w'.cell? (.q nb 17)=some (.i s.a.m.a7)/\w'.cell? (.q nb 18)=some (.i s.a.m.a8)/\w'.cell? (.q nb 19)=some (.i s.a.n)/\w'.cell? (.q w.heap.size 1)=some (.int .i32 r.x)/\w'.cell? (.q w.heap.size 2)=some (.int .i32 r.y)/\w'.cell? (.q w.heap.size 3)=some (.int .i32 r.z))
   (first|(with_reducible exact hS2 _ hd2)|(with_reducible exact hS2 _ hBz')|(with_reducible exact hS2 _ (hA2 _))|(with_reducible exact hS2 _ (hBz'.alloc hBz'.size _))|(with_reducible exact hS2 _ (zjY hBz' (Nat.le_refl _))))
   (first
     |(go_at_call 88
       refine(hc2 _ (by with_reducible exact hd2)).mono ?_
       rintro e wz ⟨rfl,hBz',hBz⟩)
     |(go_at_call 88
       refine(hc2 _ (by with_reducible exact hA2 _)).mono ?_;rintro e wz ⟨rfl,hBz',hBz⟩;have hz:wz.heap[w1.heap.size]? =_:=(hBz.block _ jq).trans (heap_alloc_new w1 _);have z0:=zi 0 hz rfl;have y0:=zC 0 hz;have z1:=zi 1 hz rfl;have y1:=zC 1 hz;have z2:=zi 2 hz rfl;have y2:=zC 2 hz;have z3:=zi 3 hz rfl;have y3:=zC 3 hz;have z4:=zi 4 hz rfl;have y4:=zC 4 hz;have z5:=zi 5 hz rfl;have y5:=zC 5 hz;have z6:=zi 6 hz rfl;have y6:=zC 6 hz;have z7:=zi 7 hz rfl;have y7:=zC 7 hz;have z8:=zi 8 hz rfl;have y8:=zC 8 hz;have z9:=zi 9 hz rfl
       have y9:=zC 9 hz))
  ·go_wp2
   go_meet
   case rel=>exact⟨wz.heap.size,rfl,rfl,heap_alloc_new wz _,hBz'.size,hBz'.alloc hBz'.size _⟩
  ·go_wp2
   go_meet
   case rel=>exact⟨w1.heap.size,rfl,rfl,zys hz,Nat.le_refl _,zjY hBz' (Nat.le_refl _)⟩
 case rest=>
 obtain⟨la,rfl,rfl,bla2,hlla,hB2⟩:=hcut;obtain⟨w2,hw2⟩:∃x,x=wc:=⟨_,rfl⟩;subst hw2;have h2:Below w.heap.size w w2:=h1.trans (hB2.mono h1.size);have bx2:w2.heap[w.heap.size]? =some (.cells rd 50 (0,0)):=(hB2.block _ (zy bx1)).trans bx1;have hN2:=hN1.below hB2;clear hS2 hd2 hA2 hc2;have hA:MI (jd s t r).m:=zNV hs t r;have hlift:∀w,Calls PP 89 #[.agg #[.i (jd s t r).m.a0,.i (jd s t r).m.a1,.i (jd s t r).m.a2,.i (jd s t r).m.a3,.i (jd s t r).m.a4,.i (jd s t r).m.a5,.i (jd s t r).m.a6,.i (jd s t r).m.a7,.i (jd s t r).m.a8,.i (jd s t r).n],.agg #[.int .i32 x.x,.int .i32 x.y,.int .i32 x.z]] w fun e w'=>e= .returned (.tuple #[.agg #[.i (zbq (jd s t r) x).x,.i (zbq (jd s t r) x).y,.i (zbq (jd s t r) x).z],.bool (zwm (jd s t r) x)])/\Below w.heap.size w w':=fun w=>zLd hA hx.x hx.y hx.z w
 have cla0:=zi 0 bla2 rfl;have cla1:=zi 1 bla2 rfl;have cla2:=zi 2 bla2 rfl;have cla3:=zi 3 bla2 rfl;have cla4:=zi 4 bla2 rfl;have cla5:=zi 5 bla2 rfl;have cla6:=zi 6 bla2 rfl;have cla7:=zi 7 bla2 rfl;have cla8:=zi 8 bla2 rfl;have cla9:=zi 9 bla2 rfl;have cbox4:w2.cell? (.q w.heap.size 4)=some (.int .i32 x.x):=(za bx2).trans d4;have cbox5:w2.cell? (.q w.heap.size 5)=some (.int .i32 x.y):=(za bx2).trans d5;have cbox6:w2.cell? (.q w.heap.size 6)=some (.int .i32 x.z):=(za bx2).trans d6;go_wp2_with(go_at_call 89;refine(hlift _).mono ?_;clear hlift;rintro e wz ⟨rfl,hBz⟩)
 clear cla0 cla1 cla2 cla3 cla4 cla5 cla6 cla7 cla8 cla9;clear cbox4 cbox5 cbox6;have hB3:Below w2.heap.size w2 (wz.alloc (.cells #[.i (zbq (jd s t r) x).x,.i (zbq (jd s t r) x).y,.i (zbq (jd s t r) x).z] 24)):=hBz.alloc hBz.size _;have blf3:(wz.alloc (.cells #[.i (zbq (jd s t r) x).x,.i (zbq (jd s t r) x).y,.i (zbq (jd s t r) x).z] 24)).heap[wz.heap.size]? =some (.cells #[.i (zbq (jd s t r) x).x,.i (zbq (jd s t r) x).y,.i (zbq (jd s t r) x).z] 24 (0,0)):=heap_alloc_new wz _;have hllf:=hBz.size;clear hBz;generalize wz.alloc (.cells #[.i (zbq (jd s t r) x).x,.i (zbq (jd s t r) x).y,.i (zbq (jd s t r) x).z] 24)=w3 at*
 generalize wz.heap.size=lf at*
 have h3:Below w.heap.size w w3:=h2.trans (hB3.mono h2.size);have bx3:w3.heap[w.heap.size]? =some (.cells rd 50 (0,0)):=(hB3.block _ (zy bx2)).trans bx2;have hN3:=hN2.below hB3;have bla3:w3.heap[la]? =some (.cells #[.i (jd s t r).m.a0,.i (jd s t r).m.a1,.i (jd s t r).m.a2,.i (jd s t r).m.a3,.i (jd s t r).m.a4,.i (jd s t r).m.a5,.i (jd s t r).m.a6,.i (jd s t r).m.a7,.i (jd s t r).m.a8,.i (jd s t r).n] 59 (0,0)):=(hB3.block _ (zy bla2)).trans bla2;have hsub:∀w,Calls PP 90 #[.agg #[.i (zbq (jd s t r) x).x,.i (zbq (jd s t r) x).y,.i (zbq (jd s t r) x).z],.agg #[.i s.g0,.i s.g1,.i s.g2]] w fun e w'=>e= .returned (.tuple #[.agg #[.i (stQ s t r x).x,.i (stQ s t r x).y,.i (stQ s t r x).z],.bool (zs6 (zbq (jd s t r) x) s.g)])/\Below w.heap.size w w':=fun w=>zNS (ztD _ _).x (ztD _ _).y (ztD _ _).z hs.g0 hs.g1 hs.g2 w
 have hS4:∀w',Below w3.heap.size w3 w'->w'.cell? (.q nb 0)=some (.i s.g0)/\w'.cell? (.q nb 1)=some (.i s.g1)/\w'.cell? (.q nb 2)=some (.i s.g2)/\w'.cell? (.q lf 0)=some (.i (zbq (jd s t r) x).x)/\w'.cell? (.q lf 1)=some (.i (zbq (jd s t r) x).y)/\w'.cell? (.q lf 2)=some (.i (zbq (jd s t r) x).z):=fun w' hB=>⟨(hB.cell (p:=(.q nb _)) hN3.lt).trans (za hN3),(hB.cell (p:=(.q nb _)) hN3.lt).trans (za hN3),(hB.cell (p:=(.q nb _)) hN3.lt).trans (za hN3),(hB.cell (p:=(.q lf _)) (zy blf3)).trans (za blf3),(hB.cell (p:=(.q lf _)) (zy blf3)).trans (za blf3),(hB.cell (p:=(.q lf _)) (zy blf3)).trans (za blf3)⟩
 have hd4:Below w3.heap.size w3 w3.drew:=⟨rfl,rfl,rfl,Nat.le_refl _,fun _ _=>rfl⟩;have hA4:∀o,Below w3.heap.size w3 (w3.alloc o).drew:=fun o=>hd4.alloc (Nat.le_refl _) o
 have hc4:=fun W (hW:Below w3.heap.size w3 W)=>(hsub W).mono fun e w' (h:_/\_)=>(⟨h.1,hW.trans (h.2.mono hW.size),h.2⟩:_/\Below w3.heap.size w3 w'/\Below W.heap.size W w')
 go_cut [12,13] (fun va vb w'=>∃l,va= .pointer (some (.q l 0))/\vb= .bool (zs6 (zbq (jd s t r) x) s.g)/\w'.heap[l]? =some (.cells #[.i (stQ s t r x).x,.i (stQ s t r x).y,.i (stQ s t r x).z] 24 (0,0))/\w3.heap.size<=l/\Below w3.heap.size w3 w')
 case first=>
  go_region_held3(fun w'=>w'.cell? (.q nb 0)=some (.i s.g0)/\w'.cell? (.q nb 1)=some (.i s.g1)/\w'.cell? (.q nb 2)=some (.i s.g2)/\w'.cell? (.q lf 0)=some (.i (zbq (jd s t r) x).x)/\w'.cell? (.q lf 1)=some (.i (zbq (jd s t r) x).y)/\w'.cell? (.q lf 2)=some (.i (zbq (jd s t r) x).z))
   (first|(with_reducible exact hS4 _ hd4)|(with_reducible exact hS4 _ hBz')|(with_reducible exact hS4 _ (hA4 _))|(with_reducible exact hS4 _ (hBz'.alloc hBz'.size _))|(with_reducible exact hS4 _ (zay hBz' (Nat.le_refl _))))
   (first
     |(go_at_call 90
       refine(hc4 _ (by with_reducible exact hd4)).mono ?_
       rintro e wz ⟨rfl,hBz',hBz⟩)
     |(go_at_call 90
       refine(hc4 _ (by with_reducible exact hA4 _)).mono ?_;rintro e wz ⟨rfl,hBz',hBz⟩;have hz:wz.heap[w3.heap.size]? =_:=(hBz.block _ jq).trans (heap_alloc_new w3 _);have z0:=zi 0 hz rfl;have y0:=zC 0 hz;have z1:=zi 1 hz rfl;have y1:=zC 1 hz;have z2:=zi 2 hz rfl
       have y2:=zC 2 hz))
  ·go_wp2
   go_meet
   case rel=>exact⟨wz.heap.size,rfl,rfl,heap_alloc_new wz _,hBz'.size,hBz'.alloc hBz'.size _⟩
  ·go_wp2
   go_meet
   case rel=>exact⟨w3.heap.size,rfl,rfl,zbi hz,Nat.le_refl _,zay hBz' (Nat.le_refl _)⟩
 case rest=>
 obtain⟨lq,rfl,rfl,blq4,hllq,hB4⟩:=hcut;obtain⟨w4,hw4⟩:∃x,x=wc:=⟨_,rfl⟩;subst hw4;have h4:Below w.heap.size w w4:=h3.trans (hB4.mono h3.size);have hN4:=hN3.below hB4;have bla4:w4.heap[la]? =some (.cells #[.i (jd s t r).m.a0,.i (jd s t r).m.a1,.i (jd s t r).m.a2,.i (jd s t r).m.a3,.i (jd s t r).m.a4,.i (jd s t r).m.a5,.i (jd s t r).m.a6,.i (jd s t r).m.a7,.i (jd s t r).m.a8,.i (jd s t r).n] 59 (0,0)):=(hB4.block _ (zy bla3)).trans bla3;clear hS4 hd4 hA4 hc4;have hsc1:∀w,Calls PP 91 #[.agg #[.i (stQ s t r x).x,.i (stQ s t r x).y,.i (stQ s t r x).z],.i (dtZ t)] w fun e w'=>e= .returned (.tuple #[.agg #[.i (stM s t r x).x,.i (stM s t r x).y,.i (stM s t r x).z],.bool (ziH (stQ s t r x) (dtZ t))])/\Below w.heap.size w w':=fun w=>zwk (ztC _ _).x (ztC _ _).y (ztC _ _).z (zv8 _ _) w
 have clq0:=zi 0 blq4 rfl;have clq1:=zi 1 blq4 rfl;have clq2:=zi 2 blq4 rfl;go_wp2_with(go_at_call 91;refine(hsc1 _).mono ?_;clear hsc1;rintro e wz ⟨rfl,hBz⟩)
 clear clq0 clq1 clq2;have hB5:Below w4.heap.size w4 (wz.alloc (.cells #[.i (stM s t r x).x,.i (stM s t r x).y,.i (stM s t r x).z] 24)):=hBz.alloc hBz.size _;have blm5:(wz.alloc (.cells #[.i (stM s t r x).x,.i (stM s t r x).y,.i (stM s t r x).z] 24)).heap[wz.heap.size]? =some (.cells #[.i (stM s t r x).x,.i (stM s t r x).y,.i (stM s t r x).z] 24 (0,0)):=heap_alloc_new wz _;have hllm:=hBz.size;clear hBz;generalize wz.alloc (.cells #[.i (stM s t r x).x,.i (stM s t r x).y,.i (stM s t r x).z] 24)=w5 at*
 generalize wz.heap.size=lm at*
 have h5:Below w.heap.size w w5:=h4.trans (hB5.mono h4.size);have hN5:=hN4.below hB5;have bla5:w5.heap[la]? =some (.cells #[.i (jd s t r).m.a0,.i (jd s t r).m.a1,.i (jd s t r).m.a2,.i (jd s t r).m.a3,.i (jd s t r).m.a4,.i (jd s t r).m.a5,.i (jd s t r).m.a6,.i (jd s t r).m.a7,.i (jd s t r).m.a8,.i (jd s t r).n] 59 (0,0)):=(hB5.block _ (zy bla4)).trans bla4;have hadd1:∀w,Calls PP 51 #[.agg #[.i s.v0,.i s.v1,.i s.v2],.agg #[.i (stM s t r x).x,.i (stM s t r x).y,.i (stM s t r x).z]] w fun e w'=>e= .returned (.tuple #[.agg #[.i (stV s t r x).x,.i (stV s t r x).y,.i (stV s t r x).z],.bool (zeg s.v (stM s t r x))])/\Below w.heap.size w w':=fun w=>zrz hs.v0 hs.v1 hs.v2 (zgA _ _).x (zgA _ _).y (zgA _ _).z w
 have hS6:∀w',Below w5.heap.size w5 w'->w'.cell? (.q nb 3)=some (.i s.v0)/\w'.cell? (.q nb 4)=some (.i s.v1)/\w'.cell? (.q nb 5)=some (.i s.v2)/\w'.cell? (.q lm 0)=some (.i (stM s t r x).x)/\w'.cell? (.q lm 1)=some (.i (stM s t r x).y)/\w'.cell? (.q lm 2)=some (.i (stM s t r x).z):=fun w' hB=>⟨(hB.cell (p:=(.q nb _)) hN5.lt).trans (za hN5),(hB.cell (p:=(.q nb _)) hN5.lt).trans (za hN5),(hB.cell (p:=(.q nb _)) hN5.lt).trans (za hN5),(hB.cell (p:=(.q lm _)) (zy blm5)).trans (za blm5),(hB.cell (p:=(.q lm _)) (zy blm5)).trans (za blm5),(hB.cell (p:=(.q lm _)) (zy blm5)).trans (za blm5)⟩
 have hd6:Below w5.heap.size w5 w5.drew:=⟨rfl,rfl,rfl,Nat.le_refl _,fun _ _=>rfl⟩;have hA6:∀o,Below w5.heap.size w5 (w5.alloc o).drew:=fun o=>hd6.alloc (Nat.le_refl _) o
 have hc6:=fun W (hW:Below w5.heap.size w5 W)=>(hadd1 W).mono fun e w' (h:_/\_)=>(⟨h.1,hW.trans (h.2.mono hW.size),h.2⟩:_/\Below w5.heap.size w5 w'/\Below W.heap.size W w')
 go_cut [16,17] (fun va vb w'=>∃l,va= .pointer (some (.q l 0))/\vb= .bool (zeg s.v (stM s t r x))/\w'.heap[l]? =some (.cells #[.i (stV s t r x).x,.i (stV s t r x).y,.i (stV s t r x).z] 24 (0,0))/\w5.heap.size<=l/\Below w5.heap.size w5 w')
 case first=>
  go_region_held3(fun w'=>w'.cell? (.q nb 3)=some (.i s.v0)/\w'.cell? (.q nb 4)=some (.i s.v1)/\w'.cell? (.q nb 5)=some (.i s.v2)/\w'.cell? (.q lm 0)=some (.i (stM s t r x).x)/\w'.cell? (.q lm 1)=some (.i (stM s t r x).y)/\w'.cell? (.q lm 2)=some (.i (stM s t r x).z))
   (first|(with_reducible exact hS6 _ hd6)|(with_reducible exact hS6 _ hBz')|(with_reducible exact hS6 _ (hA6 _))|(with_reducible exact hS6 _ (hBz'.alloc hBz'.size _))|(with_reducible exact hS6 _ (zay hBz' (Nat.le_refl _))))
   (first
     |(go_at_call 51
       refine(hc6 _ (by with_reducible exact hd6)).mono ?_
       rintro e wz ⟨rfl,hBz',hBz⟩)
     |(go_at_call 51
       refine(hc6 _ (by with_reducible exact hA6 _)).mono ?_;rintro e wz ⟨rfl,hBz',hBz⟩;have hz:wz.heap[w5.heap.size]? =_:=(hBz.block _ jq).trans (heap_alloc_new w5 _);have z0:=zi 0 hz rfl;have y0:=zC 0 hz;have z1:=zi 1 hz rfl;have y1:=zC 1 hz;have z2:=zi 2 hz rfl
       have y2:=zC 2 hz))
  ·go_wp2
   go_meet
   case rel=>exact⟨wz.heap.size,rfl,rfl,heap_alloc_new wz _,hBz'.size,hBz'.alloc hBz'.size _⟩
  ·go_wp2
   go_meet
   case rel=>exact⟨w5.heap.size,rfl,rfl,zbi hz,Nat.le_refl _,zay hBz' (Nat.le_refl _)⟩
 case rest=>
 obtain⟨lv,rfl,rfl,blv6,hllv,hB6⟩:=hcut;obtain⟨w6,hw6⟩:∃x,x=wc:=⟨_,rfl⟩;subst hw6;have h6:Below w.heap.size w w6:=h5.trans (hB6.mono h5.size);have hN6:=hN5.below hB6;have bla6:w6.heap[la]? =some (.cells #[.i (jd s t r).m.a0,.i (jd s t r).m.a1,.i (jd s t r).m.a2,.i (jd s t r).m.a3,.i (jd s t r).m.a4,.i (jd s t r).m.a5,.i (jd s t r).m.a6,.i (jd s t r).m.a7,.i (jd s t r).m.a8,.i (jd s t r).n] 59 (0,0)):=(hB6.block _ (zy bla5)).trans bla5;clear hS6 hd6 hA6 hc6;have hsc2:∀w,Calls PP 91 #[.agg #[.i (stV s t r x).x,.i (stV s t r x).y,.i (stV s t r x).z],.i (dtZ t)] w fun e w'=>e= .returned (.tuple #[.agg #[.i (stY s t r x).x,.i (stY s t r x).y,.i (stY s t r x).z],.bool (ziH (stV s t r x) (dtZ t))])/\Below w.heap.size w w':=fun w=>zwk (zfH _ _).x (zfH _ _).y (zfH _ _).z (zv8 _ _) w
 have clv0:=zi 0 blv6 rfl;have clv1:=zi 1 blv6 rfl;have clv2:=zi 2 blv6 rfl;go_wp2_with(go_at_call 91;refine(hsc2 _).mono ?_;clear hsc2;rintro e wz ⟨rfl,hBz⟩)
 clear clv0 clv1 clv2;have hB7:Below w6.heap.size w6 (wz.alloc (.cells #[.i (stY s t r x).x,.i (stY s t r x).y,.i (stY s t r x).z] 24)):=hBz.alloc hBz.size _;have bly7:(wz.alloc (.cells #[.i (stY s t r x).x,.i (stY s t r x).y,.i (stY s t r x).z] 24)).heap[wz.heap.size]? =some (.cells #[.i (stY s t r x).x,.i (stY s t r x).y,.i (stY s t r x).z] 24 (0,0)):=heap_alloc_new wz _;have hlly:=hBz.size;clear hBz;generalize wz.alloc (.cells #[.i (stY s t r x).x,.i (stY s t r x).y,.i (stY s t r x).z] 24)=w7 at*
 generalize wz.heap.size=ly at*
 have h7:Below w.heap.size w w7:=h6.trans (hB7.mono h6.size);have hN7:=hN6.below hB7;have bla7:w7.heap[la]? =some (.cells #[.i (jd s t r).m.a0,.i (jd s t r).m.a1,.i (jd s t r).m.a2,.i (jd s t r).m.a3,.i (jd s t r).m.a4,.i (jd s t r).m.a5,.i (jd s t r).m.a6,.i (jd s t r).m.a7,.i (jd s t r).m.a8,.i (jd s t r).n] 59 (0,0)):=(hB7.block _ (zy bla6)).trans bla6;have blv7:w7.heap[lv]? =some (.cells #[.i (stV s t r x).x,.i (stV s t r x).y,.i (stV s t r x).z] 24 (0,0)):=(hB7.block _ (zy blv6)).trans blv6;have hadd2:∀w,Calls PP 51 #[.agg #[.i s.p0,.i s.p1,.i s.p2],.agg #[.i (stY s t r x).x,.i (stY s t r x).y,.i (stY s t r x).z]] w fun e w'=>e= .returned (.tuple #[.agg #[.i (stP s t r x).x,.i (stP s t r x).y,.i (stP s t r x).z],.bool (zeg s.p (stY s t r x))])/\Below w.heap.size w w':=fun w=>zrz hs.p0 hs.p1 hs.p2 (zgA _ _).x (zgA _ _).y (zgA _ _).z w
 have hS8:∀w',Below w7.heap.size w7 w'->w'.cell? (.q nb 6)=some (.i s.p0)/\w'.cell? (.q nb 7)=some (.i s.p1)/\w'.cell? (.q nb 8)=some (.i s.p2)/\w'.cell? (.q ly 0)=some (.i (stY s t r x).x)/\w'.cell? (.q ly 1)=some (.i (stY s t r x).y)/\w'.cell? (.q ly 2)=some (.i (stY s t r x).z):=fun w' hB=>⟨(hB.cell (p:=(.q nb _)) hN7.lt).trans (za hN7),(hB.cell (p:=(.q nb _)) hN7.lt).trans (za hN7),(hB.cell (p:=(.q nb _)) hN7.lt).trans (za hN7),(hB.cell (p:=(.q ly _)) (zy bly7)).trans (za bly7),(hB.cell (p:=(.q ly _)) (zy bly7)).trans (za bly7),(hB.cell (p:=(.q ly _)) (zy bly7)).trans (za bly7)⟩
 have hd8:Below w7.heap.size w7 w7.drew:=⟨rfl,rfl,rfl,Nat.le_refl _,fun _ _=>rfl⟩;have hA8:∀o,Below w7.heap.size w7 (w7.alloc o).drew:=fun o=>hd8.alloc (Nat.le_refl _) o
 have hc8:=fun W (hW:Below w7.heap.size w7 W)=>(hadd2 W).mono fun e w' (h:_/\_)=>(⟨h.1,hW.trans (h.2.mono hW.size),h.2⟩:_/\Below w7.heap.size w7 w'/\Below W.heap.size W w')
 go_cut [20,21] (fun va vb w'=>∃l,va= .pointer (some (.q l 0))/\vb= .bool (zeg s.p (stY s t r x))/\w'.heap[l]? =some (.cells #[.i (stP s t r x).x,.i (stP s t r x).y,.i (stP s t r x).z] 24 (0,0))/\w7.heap.size<=l/\Below w7.heap.size w7 w')
 case first=>
  go_region_held3(fun w'=>w'.cell? (.q nb 6)=some (.i s.p0)/\w'.cell? (.q nb 7)=some (.i s.p1)/\w'.cell? (.q nb 8)=some (.i s.p2)/\w'.cell? (.q ly 0)=some (.i (stY s t r x).x)/\w'.cell? (.q ly 1)=some (.i (stY s t r x).y)/\w'.cell? (.q ly 2)=some (.i (stY s t r x).z))
   (first|(with_reducible exact hS8 _ hd8)|(with_reducible exact hS8 _ hBz')|(with_reducible exact hS8 _ (hA8 _))|(with_reducible exact hS8 _ (hBz'.alloc hBz'.size _))|(with_reducible exact hS8 _ (zay hBz' (Nat.le_refl _))))
   (first
     |(go_at_call 51
       refine(hc8 _ (by with_reducible exact hd8)).mono ?_
       rintro e wz ⟨rfl,hBz',hBz⟩)
     |(go_at_call 51
       refine(hc8 _ (by with_reducible exact hA8 _)).mono ?_;rintro e wz ⟨rfl,hBz',hBz⟩;have hz:wz.heap[w7.heap.size]? =_:=(hBz.block _ jq).trans (heap_alloc_new w7 _);have z0:=zi 0 hz rfl;have y0:=zC 0 hz;have z1:=zi 1 hz rfl;have y1:=zC 1 hz;have z2:=zi 2 hz rfl
       have y2:=zC 2 hz))
  ·go_wp2
   go_meet
   case rel=>exact⟨wz.heap.size,rfl,rfl,heap_alloc_new wz _,hBz'.size,hBz'.alloc hBz'.size _⟩
  ·go_wp2
   go_meet
   case rel=>exact⟨w7.heap.size,rfl,rfl,zbi hz,Nat.le_refl _,zay hBz' (Nat.le_refl _)⟩
 case rest=>
 obtain⟨lp,rfl,rfl,blp8,hllp,hB8⟩:=hcut;obtain⟨w8,hw8⟩:∃x,x=wc:=⟨_,rfl⟩;subst hw8;have h8:Below w.heap.size w w8:=h7.trans (hB8.mono h7.size);have hN8:=hN7.below hB8;have bla8:w8.heap[la]? =some (.cells #[.i (jd s t r).m.a0,.i (jd s t r).m.a1,.i (jd s t r).m.a2,.i (jd s t r).m.a3,.i (jd s t r).m.a4,.i (jd s t r).m.a5,.i (jd s t r).m.a6,.i (jd s t r).m.a7,.i (jd s t r).m.a8,.i (jd s t r).n] 59 (0,0)):=(hB8.block _ (zy bla7)).trans bla7;have blv8:w8.heap[lv]? =some (.cells #[.i (stV s t r x).x,.i (stV s t r x).y,.i (stV s t r x).z] 24 (0,0)):=(hB8.block _ (zy blv7)).trans blv7;clear hS8 hd8 hA8 hc8
 have hA8:Below w8.heap.size w8 (w8.alloc (.cells #[.bool (zri s.a.m (yv r.x t) (yv r.y t) (yv r.z t)),.bool (zwm (jd s t r) x),.bool (zs6 (zbq (jd s t r) x) s.g),.bool (ziH (stQ s t r x) (dtZ t)),.bool (zeg s.v (stM s t r x)),.bool (ziH (stV s t r x) (dtZ t)),.bool (zeg s.p (stY s t r x))] 4)):=(Below.refl _ _).alloc (Nat.le_refl _) _;have hm:=zgU [zri s.a.m (yv r.x t) (yv r.y t) (yv r.z t),zwm (jd s t r) x,zs6 (zbq (jd s t r) x) s.g,ziH (stQ s t r x) (dtZ t),zeg s.v (stM s t r x),ziH (stV s t r x) (dtZ t),zeg s.p (stY s t r x)] jq w8.heap.size 7 nb mb s (w8.alloc (.cells #[.bool (zri s.a.m (yv r.x t) (yv r.y t) (yv r.z t)),.bool (zwm (jd s t r) x),.bool (zs6 (zbq (jd s t r) x) s.g),.bool (ziH (stQ s t r x) (dtZ t)),.bool (zeg s.v (stM s t r x)),.bool (ziH (stV s t r x) (dtZ t)),.bool (zeg s.p (stY s t r x))] 4)) (zXZ _ _ _) (hN8.below hA8)
 go_wp2_with(go_at_call 53;refine hm.mono ?_;clear hm;rintro e w9 ⟨rfl,hN9,hC9⟩)
 have hC:Chg nb w8 w9:=(Chg.of hA8).trans hC9;have bla9:w9.heap[la]? =some (.cells #[.i (jd s t r).m.a0,.i (jd s t r).m.a1,.i (jd s t r).m.a2,.i (jd s t r).m.a3,.i (jd s t r).m.a4,.i (jd s t r).m.a5,.i (jd s t r).m.a6,.i (jd s t r).m.a7,.i (jd s t r).m.a8,.i (jd s t r).n] 59 (0,0)):=(hC.block _ (zy bla8) (by have:=h1.size;have:=h3.size;have:=h5.size;have:=h7.size;omega)).trans bla8;have blv9:w9.heap[lv]? =some (.cells #[.i (stV s t r x).x,.i (stV s t r x).y,.i (stV s t r x).z] 24 (0,0)):=(hC.block _ (zy blv8) (by have:=h1.size;have:=h3.size;have:=h5.size;have:=h7.size;omega)).trans blv8;have blp9:w9.heap[lp]? =some (.cells #[.i (stP s t r x).x,.i (stP s t r x).y,.i (stP s t r x).z] 24 (0,0)):=(hC.block _ (zy blp8) (by have:=h1.size;have:=h3.size;have:=h5.size;have:=h7.size;omega)).trans blp8
 have hS10:∀w',Chg nb w9 w'->w'.cell? (.q la 0)=some (.i (jd s t r).m.a0)/\w'.cell? (.q la 1)=some (.i (jd s t r).m.a1)/\w'.cell? (.q la 2)=some (.i (jd s t r).m.a2)/\w'.cell? (.q la 3)=some (.i (jd s t r).m.a3)/\w'.cell? (.q la 4)=some (.i (jd s t r).m.a4)/\w'.cell? (.q la 5)=some (.i (jd s t r).m.a5)/\w'.cell? (.q la 6)=some (.i (jd s t r).m.a6)/\w'.cell? (.q la 7)=some (.i (jd s t r).m.a7)/\w'.cell? (.q la 8)=some (.i (jd s t r).m.a8)/\w'.cell? (.q la 9)=some (.i (jd s t r).n)/\w'.cell? (.q lv 0)=some (.i (stV s t r x).x)/\w'.cell? (.q lv 1)=some (.i (stV s t r x).y)/\w'.cell? (.q lv 2)=some (.i (stV s t r x).z)/\w'.cell? (.q lp 0)=some (.i (stP s t r x).x)/\w'.cell? (.q lp 1)=some (.i (stP s t r x).y)/\w'.cell? (.q lp 2)=some (.i (stP s t r x).z):=fun w' hc=>⟨(World.cell?_of_block (w:=w9) (a:=(.q la _)) (hc.block la (zy bla9) (by have:=h1.size;have:=h3.size;have:=h5.size;have:=h7.size;omega))).trans (za bla9),(World.cell?_of_block (w:=w9) (a:=(.q la _)) (hc.block la (zy bla9) (by have:=h1.size;have:=h3.size;have:=h5.size;have:=h7.size;omega))).trans (za bla9),(World.cell?_of_block (w:=w9) (a:=(.q la _)) (hc.block la (zy bla9) (by have:=h1.size;have:=h3.size;have:=h5.size;have:=h7.size;omega))).trans (za bla9),(World.cell?_of_block (w:=w9) (a:=(.q la _)) (hc.block la (zy bla9) (by have:=h1.size;have:=h3.size;have:=h5.size;have:=h7.size;omega))).trans (za bla9),(World.cell?_of_block (w:=w9) (a:=(.q la _)) (hc.block la (zy bla9) (by have:=h1.size;have:=h3.size;have:=h5.size;have:=h7.size;omega))).trans (za bla9),(World.cell?_of_block (w:=w9) (a:=(.q la _)) (hc.block la (zy bla9) (by have:=h1.size;have:=h3.size;have:=h5.size;have:=h7.size;omega))).trans (za bla9),(World.cell?_of_block (w:=w9) (a:=(.q la _)) (hc.block la (zy bla9) (by have:=h1.size;have:=h3.size;have:=h5.size;have:=h7.size;omega))).trans (za bla9),(World.cell?_of_block (w:=w9) (a:=(.q la _)) (hc.block la (zy bla9) (by have:=h1.size;have:=h3.size;have:=h5.size;have:=h7.size;omega))).trans (za bla9),(World.cell?_of_block (w:=w9) (a:=(.q la _)) (hc.block la (zy bla9) (by have:=h1.size;have:=h3.size;have:=h5.size;have:=h7.size;omega))).trans (za bla9),(World.cell?_of_block (w:=w9) (a:=(.q la _)) (hc.block la (zy bla9) (by have:=h1.size;have:=h3.size;have:=h5.size;have:=h7.size;omega))).trans (za bla9),(World.cell?_of_block (w:=w9) (a:=(.q lv _)) (hc.block lv (zy blv9) (by have:=h1.size;have:=h3.size;have:=h5.size;have:=h7.size;omega))).trans (za blv9),(World.cell?_of_block (w:=w9) (a:=(.q lv _)) (hc.block lv (zy blv9) (by have:=h1.size;have:=h3.size;have:=h5.size;have:=h7.size;omega))).trans (za blv9),(World.cell?_of_block (w:=w9) (a:=(.q lv _)) (hc.block lv (zy blv9) (by have:=h1.size;have:=h3.size;have:=h5.size;have:=h7.size;omega))).trans (za blv9),(World.cell?_of_block (w:=w9) (a:=(.q lp _)) (hc.block lp (zy blp9) (by have:=h1.size;have:=h3.size;have:=h5.size;have:=h7.size;omega))).trans (za blp9),(World.cell?_of_block (w:=w9) (a:=(.q lp _)) (hc.block lp (zy blp9) (by have:=h1.size;have:=h3.size;have:=h5.size;have:=h7.size;omega))).trans (za blp9),(World.cell?_of_block (w:=w9) (a:=(.q lp _)) (hc.block lp (zy blp9) (by have:=h1.size;have:=h3.size;have:=h5.size;have:=h7.size;omega))).trans (za blp9)⟩
 have n10:=zi 10 hN9 rfl;have f10:=zC 10 hN9;have n11:=zi 11 hN9 rfl;have f11:=zC 11 hN9;have n12:=zi 12 hN9 rfl;have f12:=zC 12 hN9;have n13:=zi 13 hN9 rfl;have f13:=zC 13 hN9;have n14:=zi 14 hN9 rfl;have f14:=zC 14 hN9;have n15:=zi 15 hN9 rfl;have f15:=zC 15 hN9;have n16:=zi 16 hN9 rfl;have f16:=zC 16 hN9;have n17:=zi 17 hN9 rfl;have f17:=zC 17 hN9;have n18:=zi 18 hN9 rfl;have f18:=zC 18 hN9;have n19:=zi 19 hN9 rfl;have f19:=zC 19 hN9;have n3:=zi 3 hN9 rfl;have f3:=zC 3 hN9;have n4:=zi 4 hN9 rfl;have f4:=zC 4 hN9;have n5:=zi 5 hN9 rfl;have f5:=zC 5 hN9;have n6:=zi 6 hN9 rfl;have f6:=zC 6 hN9;have n7:=zi 7 hN9 rfl
 have f7:=zC 7 hN9;have n8:=zi 8 hN9 rfl;have f8:=zC 8 hN9;have c9:=Chg.refl nb w9;go_region_held3(fun w'=>w'.cell? (.q la 0)=some (.i (jd s t r).m.a0)/\w'.cell? (.q la 1)=some (.i (jd s t r).m.a1)/\w'.cell? (.q la 2)=some (.i (jd s t r).m.a2)/\w'.cell? (.q la 3)=some (.i (jd s t r).m.a3)/\w'.cell? (.q la 4)=some (.i (jd s t r).m.a4)/\w'.cell? (.q la 5)=some (.i (jd s t r).m.a5)/\w'.cell? (.q la 6)=some (.i (jd s t r).m.a6)/\w'.cell? (.q la 7)=some (.i (jd s t r).m.a7)/\w'.cell? (.q la 8)=some (.i (jd s t r).m.a8)/\w'.cell? (.q la 9)=some (.i (jd s t r).n)/\w'.cell? (.q lv 0)=some (.i (stV s t r x).x)/\w'.cell? (.q lv 1)=some (.i (stV s t r x).y)/\w'.cell? (.q lv 2)=some (.i (stV s t r x).z)/\w'.cell? (.q lp 0)=some (.i (stP s t r x).x)/\w'.cell? (.q lp 1)=some (.i (stP s t r x).y)/\w'.cell? (.q lp 2)=some (.i (stP s t r x).z))
  (first|(with_reducible refine hS10 _ ?_;repeat(first|(with_reducible exact c9)|(with_reducible refine Chg.drew ?_)|(with_reducible refine Chg.setCell ?_ _ _))))
  (fail)
 go_wp2;go_end0;have hcw:Chg nb w w9:=(Chg.of h8).trans hC;refine⟨rfl,zQ5 hN9 (jd s t r) (stV s t r x) (stP s t r x),?_⟩
 repeat(first|(with_reducible exact hcw)|(with_reducible refine Chg.drew ?_)|(with_reducible refine Chg.setCell ?_ _ _))
theorem zWI(mb:Nat)(w:World):Sem.run PP (binOp BinOp.neq 60 (Value.map (some mb)) (Value.map none)) w= .ok (.bool true) w:=by
 kernel_rfl
theorem zil(nb mb:Nat)(s:NS)(w:World)(hN:jc w nb mb s):Calls PP 43 #[.pointer (some (.q nb 0))] w fun e w'=>e= .returned (.bool true)/\w'=w:=by
 go_enter Proofs.Tryz.func43,Proofs.Tryz.ntmps43
 have hmm:=zWI mb;have c20:=zi 20 hN rfl;go_wp2;go_ret;simp
theorem zLf(nb mb:Nat)(s:NS)(t:Int)(w:World)(hN:jc w nb mb s):Calls PP 44 #[.pointer (some (.q nb 0)),.i t] w fun e w'=>
 (¬(s.now<=t/\t<=1099511627776)/\e= .returned (.i 2)/\w'=w)\/((s.now<=t/\t<=1099511627776)/\e= .returned (.i 0)/\w'=w.setCell (.q nb 23) (.i t)):=by
 go_enter Proofs.Tryz.func44,Proofs.Tryz.ntmps44
 have hi:=zil nb mb s w hN;have c23:=zi 23 hN rfl;have f23:=zC 23 hN;by_cases h1:t<s.now
 ·go_wp2_with(go_at_call 43;refine hi.mono ?_;clear hi;rintro e w' ⟨rfl,rfl⟩)
  go_ret;exact .inl ⟨zc,rfl,rfl⟩
 ·by_cases h2:1099511627776<t
  ·go_wp2_with(go_at_call 43;refine hi.mono ?_;clear hi;rintro e w' ⟨rfl,rfl⟩)
   go_ret;exact .inl ⟨zc,rfl,rfl⟩
  ·go_wp2_with(go_at_call 43;refine hi.mono ?_;clear hi;rintro e w' ⟨rfl,rfl⟩)
   go_ret;exact .inr ⟨zc,rfl,rfl⟩
theorem zYE{P:Program}{ops:Array Oper}{Q:Exit->Act->World->Prop}{md:Region.Mode}{S:World->Prop}{i:Nat}{oi:Oper}{v:Value}{fuel:Nat}{listed:Array Bool}{a:Act}{w:World}(hy:∀w,S w->(execOp a.eval oi).run P w= .ok (.value v) w)(hk:wpAnyH P md ops Q S fuel (listed.setIfInBounds i true) (a.put oi.dst v) w)
 (h1:ops[i]? =some oi:=by kernel_rfl) (h2:Region.noSelect ops=true:=by kernel_rfl) (h3:Region.free md ops listed i=true:=by kernel_rfl) (h4:(Region.ready md ops listed).contains i=true:=by kernel_rfl) (h5:∀(c:List PanicEntry) (a:Act) (w:World),Q (Exit.panic c) (a.put oi.dst v) w->Q (Exit.panic c) a w:=by exact fun _ _ _ h=>h)
 (hw:Region.wanted oi (yielded ops a.tmps)=true:=by kernel_rfl) (hS:S w:=by assumption):wpAnyH P md ops Q S (fuel+1) listed a w:=wpAnyH_take h1 h2 h3 h4 h5 (.inl ⟨hw,hy⟩) hS hk
theorem zag{P:Program}{ops:Array Oper}{Q:Exit->Act->World->Prop}{md:Region.Mode}{S:World->Prop}{i:Nat}{oi:Oper}{v:Value}{fuel:Nat}{listed:Array Bool}{a:Act}{w:World}(hk:wpAnyH P md ops Q S fuel (listed.setIfInBounds i true) (a.put oi.dst v) w)
 (hy:∀w,S w->(execOp a.eval oi).run P w= .ok (.value v) w:=by(intro w hSw;(try dsimp only at hSw);go_simp;try with_reducible rfl)) (h1:ops[i]? =some oi:=by kernel_rfl) (h2:Region.noSelect ops=true:=by kernel_rfl) (h3:Region.free md ops listed i=true:=by kernel_rfl) (h4:(Region.ready md ops listed).contains i=true:=by kernel_rfl) (h5:∀(c:List PanicEntry) (a:Act) (w:World),Q (Exit.panic c) (a.put oi.dst v) w->Q (Exit.panic c) a w:=by exact fun _ _ _ h=>h)
 (hw:Region.wanted oi (yielded ops a.tmps)=true:=by kernel_rfl) (hS:S w:=by assumption):wpAnyH P md ops Q S (fuel+1) listed a w:=wpAnyH_take h1 h2 h3 h4 h5 (.inl ⟨hw,hy⟩) hS hk
theorem zaG{P:Program}{ops:Array Oper}{Q:Exit->Act->World->Prop}{md:Region.Mode}{S:World->Prop}{i:Nat}{oi:Oper}{fuel:Nat}{listed:Array Bool}{a:Act}{w:World}(hk:wpAnyH P md ops Q S fuel (listed.setIfInBounds i true) (a.put oi.dst undef) w)
 (h1:ops[i]? =some oi:=by kernel_rfl) (h2:Region.noSelect ops=true:=by kernel_rfl) (h3:Region.free md ops listed i=true:=by kernel_rfl) (h4:(Region.ready md ops listed).contains i=true:=by kernel_rfl) (h5:∀(c:List PanicEntry) (a:Act) (w:World),Q (Exit.panic c) (a.put oi.dst undef) w->Q (Exit.panic c) a w:=by exact fun _ _ _ h=>h)
 (hw:Region.wanted oi (yielded ops a.tmps)=false:=by kernel_rfl) (hS:S w:=by assumption):wpAnyH P md ops Q S (fuel+1) listed a w:=wpAnyH_take h1 h2 h3 h4 h5 (.inr ⟨hw,rfl⟩) hS hk
noncomputable def zpi(s:NS)(t kd:Int)(r x:V3):NS:=
 if kd=1/\s.now<=t/\t<=1099511627776 then
  (if s.start= -1 then{s with now:=t,start:=t,last:=t}else{zEn {s with now:=t} (min (t-s.last) 65535) r x with last:=t})
 else s
def zr4(s:NS)(t kd:Int):Int:=if kd=1/\s.now<=t/\t<=1099511627776 then 0 else 2
structure zUT (f:Nat->Value) (kd:Int) (r x:V3):Prop where
 d0:f 0= .i kd
 d1:f 1= .int .i32 r.x
 d2:f 2= .int .i32 r.y
 d3:f 3= .int .i32 r.z
 d4:f 4= .int .i32 x.x
 d5:f 5= .int .i32 x.y
 d6:f 6= .int .i32 x.z
theorem zaZ{P:Program}{t:TypeId}(h:(match P.underlying t with|some d=>d.isRow|none=>false)=true):∃d,P.underlying t=some d/\d.isRow=true:=by
 cases hd:P.underlying t with
 |none=>rw [hd]at h;exact absurd h jq
 |some d=>exact⟨d,rfl,by rw [hd]at h;exact h⟩
def rdA(f:Nat->Value):Array Value:=#[f 0,f 1,f 2,f 3,f 4,f 5,f 6,f 7,f 8,f 9,f 10,f 11,f 12,f 13,f 14,f 15,f 16,f 17,f 18,f 19,f 20,f 21,f 22,f 23,f 24,f 25,f 26,f 27,f 28,f 29,f 30,f 31,f 32,f 33,f 34,f 35,f 36,f 37,f 38,f 39,f 40,f 41,f 42,f 43,f 44,f 45,f 46,f 47,f 48,f 49,f 50,f 51,f 52,f 53,f 54,f 55,f 56]
theorem za6(f:Nat->Value)(k:Nat)(hk:k<57):(rdA f)[k]? =some (f k):=by
 have h:rdA f=((List.range 57).map f).toArray:=by unfold rdA;kernel_rfl
 rw [h];simp [hk]
theorem zxx(nb mb:Nat)(s:NS)(hs:s.ok)(hf:s.start= -1\/(0<=s.last/\s.last<=s.now))(t kd:Int)(r x:V3)(hr:r.W)(hx:x.W)(f:Nat->Value)(hd:zUT f kd r x)(w:World)(hN:jc w nb mb s):
 Calls PP 13 #[.pointer (some (.q nb 0)),.i t,.agg (rdA f)] w fun e w'=>e= .returned (.i (zr4 s t kd))/\jc w' nb mb (zpi s t kd r x)/\Chg nb w w':=by
 go_enter Proofs.Tryz.func13,Proofs.Tryz.ntmps13
 have hA0:Below w.heap.size w (w.alloc (.cells (rdA f) 50)):=(Below.refl _ w).alloc (Nat.le_refl _) _;have hN0:=hN.below hA0;have hi:=zil nb mb s _ hN0;have ha:=zLf nb mb s t _ hN0;have k0:(w.alloc (.cells (rdA f) 50)).cell? (.q w.heap.size 0)=some (.i kd):=(za (heap_alloc_new w _)).trans ((za6 f 0 zc).trans (congrArg some hd.d0));by_cases hk:kd=1
 ·subst hk
  by_cases ht:s.now<=t/\t<=1099511627776
  ·have hE:zr4 s t 1=0:=by unfold zr4;rw [if_pos ⟨rfl,ht⟩]
   rw [hE];replace ha:=ha.mono (R':=fun e w'=>e= .returned (.i 0)/\jc w' nb mb {s with now:=t}/\Chg nb (w.alloc (.cells (rdA f) 50)) w') fun e w' h=>by
    rcases h with h|h
    ·exact absurd ht h.1
    ·obtain⟨_,rfl,rfl⟩:=h
     exact⟨rfl,zf hN0,(Chg.refl nb _).setCell 23 _⟩
   have hnw:=hN.lt;obtain⟨s',hs'⟩:∃s',s'=({s with now:=t}:NS):=⟨_,rfl⟩;have hs1:s'.ok:=by rw [hs'];exact⟨hs.g0,hs.g1,hs.g2,hs.v0,hs.v1,hs.v2,hs.p0,hs.p1,hs.p2,hs.m,hs.n⟩
   have hst:s'.start=s.start:=by rw [hs']
   have hla:s'.last=s.last:=by rw [hs']
   have hI:zpi s t 1 r x=if s.start= -1 then{s' with start:=t,last:=t}else{zEn s' (min (t-s.last) 65535) r x with last:=t}:=by unfold zpi;rw [if_pos ⟨rfl,ht⟩,hs']
   rw [hI];rw [<-hs']at ha;clear hI hs';by_cases h0:s.start= -1
   ·rw [if_pos h0]
    go_wp2_with(first
     |(go_at_call 43;refine hi.mono ?_;clear hi;rintro e w' ⟨rfl,rfl⟩)
     |(go_at_call 44;refine ha.mono ?_;clear ha;rintro e w1 ⟨rfl,hN1,hC1⟩
       have c21:=zi 21 hN1 rfl;have f21:=zC 21 hN1;have c22:=zi 22 hN1 rfl;have f22:=zC 22 hN1
       rw [hst,h0]at c21))
    go_ret;refine⟨rfl,?_,(((Chg.of hA0).trans hC1).setCell 21 _).setCell 22 _⟩;exact zf (zf hN1)
   ·rw [if_neg h0]
    have hf':=hf.resolve_left h0;have hmin:(if 65535<t-s.last then 65535 else t-s.last)=min (t-s.last) 65535:=zc
    go_wp2_with(first
     |(go_at_call 43;refine hi.mono ?_;clear hi;rintro e w' ⟨rfl,rfl⟩)
     |(go_at_call 44;refine ha.mono ?_;clear ha;rintro e w1 ⟨rfl,hN1,hC1⟩
       have c21:=zi 21 hN1 rfl;have c22:=zi 22 hN1 rfl;rw [hst]at c21
       rw [hla]at c22))
    have hwt:wrap .i64 (t-s.last)=t-s.last:=by simp [wrap,IntKind.signed,IntKind.bits];omega
    obtain⟨w0,hw0⟩:∃b,b=w.heap.size:=⟨_,rfl⟩;have hb1:w1.heap[w0]? =some (.cells (rdA f) 50 (0,0)):=(hC1.block _ (by rw [hw0];simp) zc).trans (hw0▸heap_alloc_new w _);have hlt:w0<w1.heap.size:=(zy hb1);have hmin':0<=min (t-s.last) 65535/\min (t-s.last) 65535<=65535:=zc;have hstep:=fun W hW=>zNW nb mb s' hs1 (min (t-s.last) 65535) hmin'.1 hmin'.2 (rdA f) r x hr hx ((za6 f 1 zc).trans (congrArg some hd.d1)) ((za6 f 2 zc).trans (congrArg some hd.d2)) ((za6 f 3 zc).trans (congrArg some hd.d3)) ((za6 f 4 zc).trans (congrArg some hd.d4)) ((za6 f 5 zc).trans (congrArg some hd.d5)) ((za6 f 6 zc).trans (congrArg some hd.d6)) W hW
    have hd1:Below w1.heap.size w1 w1.drew:=⟨rfl,rfl,rfl,Nat.le_refl _,fun _ _=>rfl⟩;obtain⟨d43,hu43,hd43⟩:∃d,PP.underlying 50=some d/\d.isRow=true:=zaZ kfz;have hi43:(PP.info? 50).map (·.size)=some (rdA f).toList.length:=kfz;have hS:∀w',Below w1.heap.size w1 w'->w'.cell? (.q nb 22)=some (.i s.last)/\w'.rangeAt w0 0 (rdA f).toList:=fun w' hB=>⟨(hB.cell (p:=(.q nb _)) hN1.lt).trans c22,fun k v hk=>(hB.cell (p:=(.q w0 _)) hlt).trans ((za hb1).trans (by simpa using hk))⟩
    rw [<-hw0];refine wp_region_held_drew (S:=fun w'=>w'.cell? (.q nb 22)=some (.i s.last)/\w'.rangeAt w0 0 (rdA f).toList) kfz (hS _ hd1) (fun hHeld=> ?_);refine wpAnyH_take (i:=8) (oi:=⟨some 26,.load 50 (.tmp 5),50,"nav.go:144",#[],none⟩) (v:=.agg (rdA f)) rfl kfz kfz kfz (fun _ _ _ h=>h) (yieldsIf_load_mid (by rfl) _ _ rfl w0 0 rfl (rdA f).toList d43 (fun w h=>h.2) hu43 hd43 hi43) (by assumption) ?_;simp only [Act.put,sLz];refine zag (i:=0) (oi:=⟨some 18,.move (.tmp 0),29,"nav.go:144",#[],none⟩) ?_;simp only [Act.put,sLz];refine zag (i:=1) (oi:=⟨some 19,.move (.tmp 1),3,"nav.go:144",#[],none⟩) ?_;simp only [Act.put,sLz]
    refine zag (i:=2) (oi:=⟨some 20,.move (.tmp 0),29,"nav.go:144",#[],none⟩) ?_;simp only [Act.put,sLz];refine zag (i:=3) (oi:=⟨some 21,.nilCheck (.tmp 20),0,"nav.go:144",#[⟨2,.data⟩],none⟩) ?_;simp only [Act.put,sLz];refine zag (i:=4) (oi:=⟨some 22,.fieldAddr 62 (.tmp 21) 7,0,"nav.go:144",#[⟨3,.data⟩],none⟩) ?_;simp only [Act.put,sLz];refine zag (i:=5) (oi:=⟨some 23,.load 3 (.tmp 22),3,"nav.go:144",#[⟨4,.data⟩],none⟩) ?_;simp only [Act.put,sLz];refine zag (i:=6) (oi:=⟨some 24,.binOp .sub 3 (.tmp 19) (.tmp 23) 3,3,"nav.go:144",#[⟨1,.data⟩,⟨5,.data⟩],none⟩) ?_;simp only [Act.put,sLz];refine zag (i:=7) (oi:=⟨some 25,.call ⟨.builtin .min,#[.tmp 24,.const (.i 65535)],#[3,3]⟩,3,"nav.go:144",#[⟨6,.data⟩],none⟩) ?_
    simp only [Act.put,sLz];refine wpAnyH_ready (rs:=[9]) kfz jq ?_;refine AllReadyH.cons (o:=⟨some 27,.call ⟨.value (.func 45),#[.tmp 18,.tmp 25,.tmp 26],#[29,3,50]⟩,0,"nav.go:144",#[⟨0,.data⟩,⟨7,.data⟩,⟨8,.data⟩],none⟩) rfl (fun K hK=> ?_) ?_
    ·go_simp
     go_at_call 45;refine(hstep _ (hN1.below hd1)).mono ?_;rintro e w2 ⟨rfl,hN2,hC2⟩;have hla2:(zEn s' (min (t-s.last) 65535) r x).last=s.last:=hla;have c22:w2.cell? (.q nb 22)=some (.i s.last):=hla2▸za hN2;have f22:=zC 22 hN2;have hb2:w2.heap[w0]? =some (.cells (rdA f) 50 (0,0)):=(hC2.block _ hlt zc).trans hb1;refine hK.out _ _ ⟨c22,fun k v hk=>(za hb2).trans (by simpa using hk)⟩ (fun hHeld=> ?_);try simp only [Act.put,sLz]
     refine wpAnyH_done kfz ?_ _;go_wp2;go_ret;have hcw:Chg nb w w2:=((Chg.of hA0).trans hC1).trans ((Chg.of hd1).trans hC2);refine⟨rfl,?_,hcw.setCell 22 _⟩;exact zf hN2
    ·exact AllReadyH.nil
  ·have hI:zpi s t 1 r x=s:=by unfold zpi;rw [if_neg (fun h=>ht h.2)]
   have hE:zr4 s t 1=2:=by unfold zr4;rw [if_neg (fun h=>ht h.2)]
   rw [hI,hE];replace ha:=ha.mono (R':=fun e w'=>e= .returned (.i 2)/\w'=_) fun e w' h=>by
    rcases h with h|h
    ·exact h.2
    ·exact absurd h.1 ht
   go_wp2_with(first
    |(go_at_call 43;refine hi.mono ?_;clear hi;rintro e w' ⟨rfl,rfl⟩)
    |(go_at_call 44;refine ha.mono ?_;clear ha;rintro e w' ⟨rfl,rfl⟩))
   go_ret;exact⟨rfl,hN0,Chg.of hA0⟩
 ·have hI:zpi s t kd r x=s:=by unfold zpi;rw [if_neg (fun h=>hk h.1)]
  have hE:zr4 s t kd=2:=by unfold zr4;rw [if_neg (fun h=>hk h.1)]
  rw [hI,hE];go_wp2_with(go_at_call 43;refine hi.mono ?_;clear hi;rintro e w' ⟨rfl,rfl⟩)
  go_ret;exact⟨rfl,hN0,Chg.of hA0⟩
def zzm(w:World)(mb:Nat):Prop:=∃c,w.heap[mb]? =some (.map #[] c)
theorem zzm.lt{w:World}{mb:Nat}(h:zzm w mb):mb<w.heap.size:=by
 obtain⟨c,h⟩:=h;exact(zy h)
theorem zzm.chg{nb mb:Nat}{w w':World}(h:zzm w mb)(hc:Chg nb w w')(hn:mb≠nb):zzm w' mb:=by
 have hl:=h.lt;obtain⟨c,h⟩:=h;exact⟨c,(hc.block mb hl hn).trans h⟩
theorem zmp:PP.underlying 60=some (.map 3 83):=kfz
theorem zEp:PP.underlying 3=some (.int .i64):=kfz
theorem ztE(w:World):(zeroValue 83).run PP w= .ok (.pointer none) w:=kfz
theorem zHB(b:Bool)(k:Int)(w:World):(Instr.checkKey b 10000 3 (.i k)).run PP w= .ok () w:=kfz
theorem zBg(k:Int)(w:World):(Instr.findKey 3 (.i k) []).run PP w= .ok none w:=kfz
theorem zHC{w:World}{mb:Nat}(h:zzm w mb)(k:Int):(Instr.lookup 60 (.map (some mb)) (.i k) false).run PP w= .ok (.pointer none) w:=by
 obtain⟨c,h⟩:=h;simp only [Instr.lookup,Sem.run_bind,run_underlying zmp,MapKept.run_getObj_map h,zHB,zBg,ztE,Result.andThen,Sem.run_pure];simp [zBg,ztE]
theorem zWJ(w:World):Sem.run PP (binOp BinOp.neq 83 (Value.pointer none) (Value.pointer none)) w= .ok (.bool false) w:=by
 kernel_rfl
theorem zLg(nb mb:Nat)(s:NS)(w:World)(hN:jc w nb mb s)(hM:zzm w mb):
 Calls PP 49 #[.pointer (some (.q nb 0))] w fun e w'=>e= .returned (.slice none 0 0)/\w'=w:=by
 go_enter Proofs.Tryz.func49,Proofs.Tryz.ntmps49
 have c20:=zi 20 hN rfl;have hl:=fun k=>zHC hM k
 go_wp2;go_loopw [3,6] (fun v i wr=>∃j:Nat,j<=8/\v= .slice none 0 0/\i= .i j/\wr=w) (fun v i _=>8-(intOf i).toNat)
 case atStart=>exact⟨0,zc,rfl,rfl,rfl⟩
 case round=>
  obtain⟨j,hj,rfl,rfl,rfl⟩:=hrel;by_cases hlt:j<8
  ·go_wp2
   exact⟨⟨j+1,zc,jq⟩,by simp [intOf];omega⟩
  ·obtain rfl:j=8:=zc
   go_wp2;go_ret;simp
theorem zcY(nb mb:Nat)(s:NS)(w:World)(hN:jc w nb mb s):
 Calls PP 54 #[.pointer (some (.q nb 0))] w fun e w'=>e= .returned (.bool (!(s.start== -1)))/\w'=w:=by
 go_enter Proofs.Tryz.func54,Proofs.Tryz.ntmps54
 have hi:=zil nb mb s w hN;have c21:=zi 21 hN rfl;go_wp2_with(go_at_call 43;refine hi.mono ?_;clear hi;rintro e w' ⟨rfl,rfl⟩)
 go_ret;simp [bne]
theorem zQ6(nb mb:Nat)(s:NS)(w:World)(hN:jc w nb mb s):
 Calls PP 20 #[.pointer (some (.q nb 0))] w fun e w'=>e= .returned (.bool s.cut)/\w'=w:=by
 go_enter Proofs.Tryz.func20,Proofs.Tryz.ntmps20
 have hi:=zil nb mb s w hN;have c24:=zi 24 hN rfl;go_wp2_with(go_at_call 43;refine hi.mono ?_;clear hi;rintro e w' ⟨rfl,rfl⟩)
 go_ret;simp
theorem zfj{W:World}{b:Nat}{ty:TypeId}{x0 x1 x2 x3 x4 x5 x6 x7 y0 y1 y2 y3 y4 y5 y6 y7:Value}(h:W.heap[b]? =some (.cells #[y0,y1,y2,y3,y4,y5,y6,y7] ty (0,0))):((((((((W.setCell (.q b 0) x0).setCell (.q b 1) x1).setCell (.q b 2) x2).setCell (.q b 3) x3).setCell (.q b 4) x4).setCell (.q b 5) x5).setCell (.q b 6) x6).setCell (.q b 7) x7).heap[b]? =some (.cells #[x0,x1,x2,x3,x4,x5,x6,x7] ty (0,0)):=by
 replace h:=zf (o:=0) (v:=x0) h;simp only [sLz]at h;replace h:=zf (o:=1) (v:=x1) h;simp only [sLz]at h;replace h:=zf (o:=2) (v:=x2) h;simp only [sLz]at h;replace h:=zf (o:=3) (v:=x3) h;simp only [sLz]at h;replace h:=zf (o:=4) (v:=x4) h;simp only [sLz]at h;replace h:=zf (o:=5) (v:=x5) h;simp only [sLz]at h;replace h:=zf (o:=6) (v:=x6) h;simp only [sLz]at h;replace h:=zf (o:=7) (v:=x7) h;simp only [sLz]at h;exact h
theorem zdX{W:World}{b nb mb:Nat}{s:NS}{x0 x1 x2 x3 x4 x5 x6 x7:Value}(h:jc W nb mb s)(hb:nb≠b):jc ((((((((W.setCell (.q b 0) x0).setCell (.q b 1) x1).setCell (.q b 2) x2).setCell (.q b 3) x3).setCell (.q b 4) x4).setCell (.q b 5) x5).setCell (.q b 6) x6).setCell (.q b 7) x7) nb mb s:=by
 unfold jc at*
 repeat(rw [Below.heap_setCell _ _ _ nb hb])
 exact h
theorem zgV{w W:World}{b nb:Nat}{x0 x1 x2 x3 x4 x5 x6 x7:Value}(h:Chg nb w W)(hb:w.heap.size<=b):Chg nb w ((((((((W.setCell (.q b 0) x0).setCell (.q b 1) x1).setCell (.q b 2) x2).setCell (.q b 3) x3).setCell (.q b 4) x4).setCell (.q b 5) x5).setCell (.q b 6) x6).setCell (.q b 7) x7):=by
 have hh:∀{W:World} {o:Nat} {v:Value},Chg nb w W->Chg nb w (W.setCell (.q b o) v):=fun h=>⟨h.os,h.tape,h.output,by have:=h.size;simpa using this,fun k hk hn=>(Below.heap_setCell _ (.q b _) _ k (fun e=>absurd hk (by simp only at e;omega))).trans (h.block k hk hn)⟩
 repeat' (refine hh ?_)
 exact h
theorem zHD(nb mb:Nat)(s:NS)(t:Int)(w:World)(hN:jc w nb mb s)(hM:zzm w mb):
 Calls PP 17 #[.pointer (some (.q nb 0)),.i t] w fun e w'=>e= .returned (.i (if s.start= -1 then 0 else 1))/\Below w.heap.size w w':=by
 go_enter Proofs.Tryz.func17,Proofs.Tryz.ntmps17
 have hst:=zcY nb mb s w hN;have c21:=zi 21 hN rfl;have c20:=zi 20 hN rfl;by_cases h0:s.start= -1
 ·rw [if_pos h0]
  rw [h0]at hst;go_wp2_with(go_at_call 54;refine hst.mono ?_;clear hst;rintro e w' ⟨rfl,rfl⟩)
  go_ret;exact⟨rfl,Below.refl _ _⟩
 ·rw [if_neg h0]
  have hb:(s.start== -1)=false:=by simpa using h0
  rw [hb]at hst;have hlt:=hM.lt;obtain⟨c,hM⟩:=hM;have hrg:=run_range_map (P:=PP) w 60 3 83 mb #[] c zmp hM;go_wp2_with(go_at_call 54;refine hst.mono ?_;clear hst;rintro e w' ⟨rfl,hw⟩;obtain rfl:=hw.symm)
  all_goals
   have hB:Below w.heap.size w (w.alloc (.mapIter (some mb) c #[] c)):=(Below.refl _ w).alloc (Nat.le_refl _) _;have hnx:=(run_next_at (P:=PP) (w.alloc (.mapIter (some mb) c #[] c)) 0 w.heap.size mb c c #[] #[] c (heap_alloc_new w _) ((hB.block _ hlt).trans hM) jq (Nat.le_refl _)).resolve_right (by rintro⟨e,he,_⟩;simp [leftOf]at he)
   obtain⟨_,hnx⟩:=hnx;generalize hw1:w.alloc (.mapIter (some mb) c #[] c)=w1 at*
   go_loopw [21] (fun _ wr=>wr=w1) (fun _ _=>0)
   case atStart=>rfl
   case round=>
    obtain rfl:=hrel;go_wp2;go_ret;exact⟨rfl,hB⟩
end Go.Xv
