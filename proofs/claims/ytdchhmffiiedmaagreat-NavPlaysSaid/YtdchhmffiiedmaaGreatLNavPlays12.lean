/- A navigator answers, whatever the inertial sensor and the aids tell, what the document says: the law returns true for every input, and leaves its arguments as they were. -/
import Derived.Test.YtdchhmffiiedmaaGreatLNavPlays
import Derived.Test.YtdchhmffiiedmaaGreatLNavPlays11
import Derived.Deep.MidRow
set_option linter.unusedVariables false
set_option linter.unusedSimpArgs false
set_option maxRecDepth 100000
set_option maxHeartbeats 64000000
open Go.IntKind (wrap)
namespace Go.Xv
open Go.RowKit
def zei(f:Nat->Value):Array Value:=#[f 0,f 1,f 2,f 3,f 4,f 5,f 6,f 7,f 8,f 9,f 10,f 11,f 12,f 13,f 14,f 15,f 16,f 17,f 18,f 19,f 20,f 21,f 22,f 23,f 24,f 25,f 26,f 27,f 28,f 29,f 30,f 31,f 32,f 33,f 34,f 35,f 36,f 37,f 38,f 39,f 40,f 41,f 42,f 43,f 44,f 45,f 46,f 47,f 48,f 49,f 50,f 51,f 52,f 53,f 54,f 55,f 56,f 57,f 58,f 59,f 60,f 61,f 62]
theorem zwB(f:Nat->Value)(k:Nat)(hk:k<63):(zei f)[k]? =some (f k):=by
 have h:zei f=((List.range 63).map f).toArray:=by unfold zei;kernel_rfl
 rw [h];simp [hk]
def zvn(f:Nat->Value):List Value:=[f 3,f 4,f 5,f 6,f 7,f 8,f 9,f 10,f 11,f 12,f 13,f 14,f 15,f 16,f 17,f 18,f 19,f 20,f 21,f 22,f 23,f 24,f 25,f 26,f 27,f 28,f 29,f 30,f 31,f 32,f 33,f 34,f 35,f 36,f 37,f 38,f 39,f 40,f 41,f 42,f 43,f 44,f 45,f 46,f 47,f 48,f 49,f 50,f 51,f 52,f 53,f 54,f 55,f 56,f 57,f 58,f 59]
theorem zTB(f:Nat->Value)(k:Nat)(v:Value)(hk:(zvn f)[k]? =some v):(zei f)[3+k]? =some v:=by
 have h:zvn f=((List.range 57).map fun k=>f (3+k)):=by unfold zvn;kernel_rfl
 have hlt:k<57:=(List.getElem?_eq_some_iff.1 hk).1;rw [zwB f _ zc];rw [h]at hk;simpa [hlt]using hk
structure zVW (f:Nat->Value) (dn sr tk:Int) (r:Rd) (y:V3):Prop where
 h0:f 0= .i dn
 h1:f 1= .i sr
 h2:f 2= .i tk
 rd:Rd2 (fun k=>f (3+k)) r
 y0:f 60= .i y.x
 y1:f 61= .i y.y
 y2:f 62= .i y.z
theorem zW6(p:PS)(sr:Int)(r:Rd):(zaJ p sr r).2.2.1=0\/(zaJ p sr r).2.2.1=2\/(zaJ p sr r).2.2.1=7:=by
 unfold zaJ;split
 ·exact .inr (.inl rfl)
 ·split
  ·split
   ·exact .inr (.inr rfl)
   ·exact .inl rfl
  ·exact .inr (.inl rfl)
theorem znr{nb rb x:Nat}{l:List (Int×Nat)}{o:Obj}{w w':World}(hK:jj (zeI nb l rb) w w')(h:w.heap[x]? =some o)(hx: ¬zeI nb l rb x):w'.heap[x]? =some o:=(hK.block x (zy h) hx).trans h
theorem zTC(nb mb:Nat)(l:List (Int×Nat))(rb:Nat)(rp:Option Addr)(cap:Nat)(hS:Sep nb mb l rb rp)(p:PS)(hI:Inv p)(f:Nat->Value)(dn sr tk:Int)(r:Rd)(y:V3)(hA:zVW f dn sr tk r y)(hr:r.ok)(hy:y.I)(w:World)(hT:Two w nb mb l rb rp cap p):
 Calls PP 9 #[ptB nb,ptB rb,.agg (zei f)] w fun e w'=>e= .returned (.bool true)/\∃p',Inv p'/\Two w' nb mb l rb rp cap p'/\jj (zeI nb l rb) w w':=by
 go_enter Proofs.Tryz.func9,Proofs.Tryz.ntmps9
 have hlt:=zVf hT.nav hT.ref;have hA0:Below w.heap.size w (w.alloc (.cells (zei f) 52)):=(Below.refl _ w).alloc (Nat.le_refl _) _;have hb0:(w.alloc (.cells (zei f) 52)).heap[w.heap.size]? =some (Obj.cells (zei f) 52 (0,0)):=heap_alloc_new w _;have hT0:AtB nb mb l rb rp cap w.heap.size (Obj.cells (zei f) 52 (0,0)) (w.alloc (.cells (zei f) 52)) p p:=⟨zfJ hS.m hT.nav hA0,hT.ref.below hA0,hb0⟩;have hx: ¬zeI nb l rb w.heap.size:=fun h=>by have:=hlt _ h;omega
 have hxb:∀k,w.heap.size<=k-> ¬zeI nb l rb k:=fun k hk h=>by have:=hlt _ h;omega
 have hxr:w.heap.size≠rb:=fun h=>hx (.inr h)
 have c0:(w.alloc (.cells (zei f) 52)).cell? (.q w.heap.size 0)=some (.i dn):=(za hb0).trans ((zwB f 0 zc).trans (congrArg some hA.h0));have hv:0<=dn%18446744073709551616%12/\dn%18446744073709551616%12<12:=zc;have hamo:=fun W=>zL2 dn W
 obtain⟨v,hv0⟩:∃v,dn%18446744073709551616%12=v:=⟨_,rfl⟩;rw [hv0]at hv;simp only [hv0]at hamo;clear hv0 hlt hT;have hKw:jj (zeI nb l rb) w (w.alloc (.cells (zei f) 52)):=jj.of hA0;have hgt:∀W:World,W.heap[w.heap.size]? =some (Obj.cells (zei f) 52 (0,0))->∀k,k<63->W.cell? (.q w.heap.size k)=some (f k):=fun W h k hk=>(za h).trans (zwB f k hk)
 obtain⟨dR,huR,hdR⟩:∃d,PP.underlying 50=some d/\d.isRow=true:=zaZ kfz;have hiR:(PP.info? 50).map (·.size)=some (zvn f).length:=kfz;have hSg:∀W:World,W.heap[w.heap.size]? =some (Obj.cells (zei f) 52 (0,0))->W.cell? (.q w.heap.size 2)=some (.i tk)/\W.rangeAt w.heap.size 3 (zvn f):=fun W h=>⟨hA.h2▸hgt W h 2 zc,fun k v hk=>(za h).trans (zTB f k v hk)⟩
 have hSp:∀W:World,W.heap[w.heap.size]? =some (Obj.cells (zei f) 52 (0,0))->W.cell? (.q w.heap.size 1)=some (.i sr)/\W.cell? (.q w.heap.size 2)=some (.i tk):=fun W h=>⟨hA.h1▸hgt W h 1 zc,hA.h2▸hgt W h 2 zc⟩
 have hSy:∀W:World,W.heap[w.heap.size]? =some (Obj.cells (zei f) 52 (0,0))->W.cell? (.q w.heap.size 1)=some (.i sr)/\W.cell? (.q w.heap.size 2)=some (.i tk)/\W.cell? (.q w.heap.size 60)=some (.i y.x)/\W.cell? (.q w.heap.size 61)=some (.i y.y)/\W.cell? (.q w.heap.size 62)=some (.i y.z):=fun W h=>⟨hA.h1▸hgt W h 1 zc,hA.h2▸hgt W h 2 zc,hA.y0▸hgt W h 60 zc,hA.y1▸hgt W h 61 zc,hA.y2▸hgt W h 62 zc⟩
 have hrd:=hA.rd;obtain⟨rr,hrr⟩:∃rr,(zvn f).toArray=rr:=⟨_,rfl⟩;have hrq:rdA (fun k=>f (3+k))=rr:=hrr▸rfl;rcases(show v<5\/(5<=v/\v<10)\/v=10\/v=11 from zc)with h5|⟨h5,h10⟩|rfl|rfl
 ·have him:=fun W h=>zW4 (nb:=nb) (mb:=mb) (l:=l) (rb:=rb) (rp:=rp) (cap:=cap) (x:=w.heap.size) (A:=(Obj.cells (zei f) 52 (0,0))) (p2:=p) hS hx hI tk r hr _ hrd W h
  have hrim:=fun W h=>zVg (nb:=nb) (mb:=mb) (l:=l) (rb:=rb) (rp:=rp) (cap:=cap) (x:=w.heap.size) (A:=(Obj.cells (zei f) 52 (0,0))) (p1:=⟨zpi p.s tk r.kd r.gy r.ac,p.ts⟩) hxr hS hI tk r hr _ hrd W h
  rw [hrq]at him hrim;have hJ:=zTr hI tk r.kd r.gy r.ac;clear hSp hSy hgt hrd hA;go_wp2_with fail
  refine(hamo _).mono ?_;clear hamo;rintro e w1 ⟨rfl,hB1⟩;replace hT0:=hT0.below hS hB1;have hK1:jj (zeI nb l rb) w w1:=hKw.trans (jj.of hB1);clear hb0 c0 hKw hA0 hB1;generalize w.heap.size=x5 at*
  have hTd:AtB nb mb l rb rp cap x5 (Obj.cells (zei f) 52 (0,0)) w1.drew p p:=hT0.below hS ⟨rfl,rfl,rfl,Nat.le_refl _,fun _ _=>rfl⟩;have hKd:jj (zeI nb l rb) w w1.drew:=hK1.drew;go_wp2;refine wp_region_held_drew (S:=fun W=>W.cell? (.q x5 2)=some (.i tk)/\W.rangeAt x5 3 (zvn f)) kfz (hSg _ hTd.blk) (fun hHeld=> ?_);refine zag (i:=0) (oi:=⟨some 20,.move (.tmp 0),29,"law.go:53",#[],none⟩) ?_;try simp only [Act.put,sLz]
  refine zag (i:=1) (oi:=⟨some 21,.fieldAddr 52 (.tmp 5) 2,0,"law.go:53",#[],none⟩) ?_;try simp only [Act.put,sLz]
  refine zag (i:=2) (oi:=⟨some 22,.load 3 (.tmp 21),3,"law.go:53",#[⟨1,.data⟩],none⟩) ?_;try simp only [Act.put,sLz]
  refine zag (i:=3) (oi:=⟨some 23,.fieldAddr 52 (.tmp 5) 3,0,"law.go:53",#[],none⟩) ?_;try simp only [Act.put,sLz]
  refine wpAnyH_take (i:=4) (oi:=⟨some 24,.load 50 (.tmp 23),50,"law.go:53",#[⟨3,.data⟩],none⟩) (v:=.agg rr) kfz kfz kfz kfz (fun _ _ _ h=>h) (hrr▸yieldsIf_load_mid kfz _ _ rfl x5 3 rfl (zvn f) dR (fun w h=>h.2) huR hdR hiR) (by assumption) ?_;try simp only [Act.put,sLz]
  refine zag (i:=6) (oi:=⟨some 26,.move (.tmp 1),34,"law.go:53",#[],none⟩) ?_;try simp only [Act.put,sLz]
  refine zag (i:=7) (oi:=⟨some 27,.fieldAddr 52 (.tmp 5) 2,0,"law.go:53",#[],none⟩) ?_;try simp only [Act.put,sLz]
  refine zag (i:=8) (oi:=⟨some 28,.load 3 (.tmp 27),3,"law.go:53",#[⟨7,.data⟩],none⟩) ?_;try simp only [Act.put,sLz]
  refine zag (i:=9) (oi:=⟨some 29,.fieldAddr 52 (.tmp 5) 3,0,"law.go:53",#[],none⟩) ?_;try simp only [Act.put,sLz]
  refine wpAnyH_take (i:=10) (oi:=⟨some 30,.load 50 (.tmp 29),50,"law.go:53",#[⟨9,.data⟩],none⟩) (v:=.agg rr) kfz kfz kfz kfz (fun _ _ _ h=>h) (hrr▸yieldsIf_load_mid kfz _ _ rfl x5 3 rfl (zvn f) dR (fun w h=>h.2) huR hdR hiR) (by assumption) ?_;try simp only [Act.put,sLz]
  refine wpAnyH_ready (rs:=[5]) kfz jq ?_;refine AllReadyH.cons (o:=⟨some 25,.call ⟨.value (.func 13),#[(.tmp 20),(.tmp 22),(.tmp 24)],#[29,3,50]⟩,30,"law.go:53",#[⟨0,.data⟩,⟨2,.data⟩,⟨4,.data⟩],none⟩) kfz (fun K hK=> ?_) AllReadyH.nil;go_simp;go_at_call 13;refine(him _ hTd).mono ?_;rintro e wa ⟨rfl,hTa,hKa⟩;refine hK.out _ _ (hSg _ hTa.blk) (fun hHeld2=> ?_);clear hHeld hK;have hHeld:=hHeld2;clear hHeld2;try simp only [Act.put,sLz]
  refine wpAnyH_ready (rs:=[11]) kfz jq ?_;refine AllReadyH.cons (o:=⟨some 31,.call ⟨.value (.func 27),#[(.tmp 26),(.tmp 28),(.tmp 30)],#[34,3,50]⟩,30,"law.go:53",#[⟨6,.data⟩,⟨8,.data⟩,⟨10,.data⟩,⟨5,.chain⟩],none⟩) kfz (fun K hK=> ?_) AllReadyH.nil;go_simp;go_at_call 27;refine(hrim _ hTa).mono ?_;rintro e wb ⟨rfl,hTb,hKb⟩;refine hK.out _ _ (hSg _ hTb.blk) (fun hHeld2=> ?_);clear hHeld hK;have hHeld:=hHeld2;clear hHeld2;try simp only [Act.put,sLz]
  refine zag (i:=12) (oi:=⟨some 32,.binOp .eql 30 (.tmp 25) (.tmp 31) 30,4,"law.go:53",#[⟨5,.data⟩,⟨11,.data⟩],none⟩) ?_;try simp only [Act.put,sLz]
  refine zag (i:=13) (oi:=⟨some 6,.assign (.tmp 32),4,"law.go:53",#[⟨12,.data⟩,⟨11,.chain⟩,⟨0,.phase⟩,⟨1,.phase⟩,⟨2,.phase⟩,⟨3,.phase⟩,⟨4,.phase⟩,⟨5,.phase⟩,⟨6,.phase⟩,⟨7,.phase⟩,⟨8,.phase⟩,⟨9,.phase⟩,⟨10,.phase⟩,⟨11,.phase⟩,⟨12,.phase⟩],none⟩) ?_;try simp only [Act.put,sLz]
  refine wpAnyH_done kfz ?_ _;go_wp2;go_ret;exact⟨jq,_,hJ,⟨hTb.nav,hTb.ref⟩,(hKd.trans hKa).trans hKb⟩
 ·have hof:=fun W h=>zW5 (nb:=nb) (mb:=mb) (l:=l) (rb:=rb) (rp:=rp) (cap:=cap) (x:=w.heap.size) (A:=(Obj.cells (zei f) 52 (0,0))) (p2:=p) hS hx hI sr r hr _ hrd W h
  have hrof:=fun W h=>zVh (nb:=nb) (mb:=mb) (l:=l) (rb:=rb) (rp:=rp) (cap:=cap) (x:=w.heap.size) (A:=(Obj.cells (zei f) 52 (0,0))) (p1:=(zaJ p sr r).2.2.2) hxr hS hI sr r hr _ hrd W h
  rw [hrq]at hof hrof;have hJ:=zTs hI sr r;have hoI:=zW1 p sr r;have hoe:=zW6 p sr r;have hev:=zVV;have hn5: ¬v<5:=zc;clear hSy hgt hrd hA hrq;rcases hoe with he|he|he
  all_goals(rw [he]at hof hrof;clear he)
  ·go_wp2_with fail
   refine(hamo _).mono ?_;clear hamo;rintro e w1 ⟨rfl,hB1⟩;replace hT0:=hT0.below hS hB1;have hK1:jj (zeI nb l rb) w w1:=hKw.trans (jj.of hB1);clear hb0 c0 hKw hA0 hB1;generalize w.heap.size=x5 at*
   have hrg:=(hSg _ hT0.blk).2;obtain⟨c1,_⟩:=hSp _ hT0.blk;go_wp2_with(refine wpList_load_mid rfl 50 (.tmp 40) rfl x5 3 rfl (zvn f) dR hrg huR hdR hiR ?_)
   refine(hof _ hT0).mono ?_;clear hof;rintro e w2 ⟨rfl,hT2,hK2⟩;have h8:(w2.alloc (.cells (v3z ((zaJ p sr r).1)) 24)).heap[w2.heap.size]? =some (.cells (v3z ((zaJ p sr r).1)) 24 (0,0)):=heap_alloc_new w2 _;have hB3:Below w2.heap.size w2 (w2.alloc (.cells (v3z ((zaJ p sr r).1)) 24)):=(Below.refl _ w2).alloc (Nat.le_refl _) _;have hT3:=hT2.below hS hB3;have hK3:=(hK1.trans hK2).trans (jj.of hB3);have hx2:x5<=w2.heap.size:=Nat.le_of_lt (zy hT2.blk);have hrg3:=(hSg _ hT3.blk).2;obtain⟨d1,_⟩:=hSp _ hT3.blk;go_wp2_with(refine wpList_load_mid rfl 50 (.tmp 50) rfl x5 3 rfl (zvn f) dR hrg3 huR hdR hiR ?_)
   refine(hrof _ hT3).mono ?_;clear hrof;rintro e w4 ⟨rfl,hT4,hK4⟩;have h9:=znr hK4 h8 (hxb _ hx2);have h10:(w4.alloc (.cells (v3z ((zaJ p sr r).1)) 24)).heap[w4.heap.size]? =some (.cells (v3z ((zaJ p sr r).1)) 24 (0,0)):=heap_alloc_new w4 _;have hB5:Below w4.heap.size w4 (w4.alloc (.cells (v3z ((zaJ p sr r).1)) 24)):=(Below.refl _ w4).alloc (Nat.le_refl _) _;have h11:(w4.alloc (.cells (v3z ((zaJ p sr r).1)) 24)).heap[w2.heap.size]? =some (.cells (v3z ((zaJ p sr r).1)) 24 (0,0)):=(hB5.block _ (zy h9)).trans h9;have hT5:=hT4.below hS hB5;have hK5:=(hK3.trans hK4).trans (jj.of hB5);have hx4:x5<=w4.heap.size:=Nat.le_of_lt (zy hT4.blk)
   clear hK1 hK2 hK3 hK4 hB3 hB5 h8 h9 hrg hrg3 d1 c1 hT0 hT2 hT3 hT4;obtain⟨x8,hx8⟩:∃x,w2.heap.size=x:=⟨_,rfl⟩;rw [hx8]at h11 hx2⊢;have a0:=zi 0 h11 rfl;have a1:=zi 1 h11 rfl;have a2:=zi 2 h11 rfl;go_wp2;generalize w4.alloc (.cells (v3z ((zaJ p sr r).1)) 24)=w5 at*
   generalize w4.heap.size=x11 at*
   have hTd:AtB nb mb l rb rp cap x5 (Obj.cells (zei f) 52 (0,0)) w5.drew (zaJ p sr r).2.2.2 (zaJ p sr r).2.2.2:=hT5.below hS ⟨rfl,rfl,rfl,Nat.le_refl _,fun _ _=>rfl⟩;have hKd:jj (zeI nb l rb) w w5.drew:=hK5.drew;have h11d:w5.drew.heap[x8]? =some (.cells (v3z ((zaJ p sr r).1)) 24 (0,0)):=h11;have h10d:w5.drew.heap[x11]? =some (.cells (v3z ((zaJ p sr r).1)) 24 (0,0)):=h10;have hSq:∀W:World,W.heap[x5]? =some (Obj.cells (zei f) 52 (0,0))->W.heap[x8]? =some (.cells (v3z ((zaJ p sr r).1)) 24 (0,0))->W.heap[x11]? =some (.cells (v3z ((zaJ p sr r).1)) 24 (0,0))->W.cell? (.q x5 1)=some (.i sr)/\W.cell? (.q x5 2)=some (.i tk)/\W.cell? (.q x8 0)=some (.i (zaJ p sr r).1.x)/\W.cell? (.q x8 1)=some (.i (zaJ p sr r).1.y)/\W.cell? (.q x8 2)=some (.i (zaJ p sr r).1.z)/\W.cell? (.q x11 0)=some (.i (zaJ p sr r).1.x)/\W.cell? (.q x11 1)=some (.i (zaJ p sr r).1.y)/\W.cell? (.q x11 2)=some (.i (zaJ p sr r).1.z):=fun W h1 h2 h3=>⟨(hSp W h1).1,(hSp W h1).2,za h2,za h2,za h2,za h3,za h3,za h3⟩
   have hpu:=fun W h=>zPv (nb:=nb) (mb:=mb) (l:=l) (rb:=rb) (rp:=rp) (cap:=cap) (x:=x5) (A:=(Obj.cells (zei f) 52 (0,0))) (p2:=(zaJ p sr r).2.2.2) hS hx hJ sr (zaJ p sr r).1 hoI tk W h
   have hrpu:=fun W h=>zMc (nb:=nb) (mb:=mb) (l:=l) (rb:=rb) (rp:=rp) (cap:=cap) (x:=x5) (A:=(Obj.cells (zei f) 52 (0,0))) (p1:=(zkJ (zaJ p sr r).2.2.2 sr (zaJ p sr r).1 tk).2) hxr hS hJ sr (zaJ p sr r).1 hoI tk W h
   have hJ2:=zEx hJ sr (zaJ p sr r).1 tk;clear hSg hSp hT5 hK5 h11 h10 hrr huR hdR hiR hev a0 a1 a2;go_region_held3(fun w'=>w'.cell? (.q x5 1)=some (.i sr)/\w'.cell? (.q x5 2)=some (.i tk)/\w'.cell? (.q x8 0)=some (.i (zaJ p sr r).1.x)/\w'.cell? (.q x8 1)=some (.i (zaJ p sr r).1.y)/\w'.cell? (.q x8 2)=some (.i (zaJ p sr r).1.z)/\w'.cell? (.q x11 0)=some (.i (zaJ p sr r).1.x)/\w'.cell? (.q x11 1)=some (.i (zaJ p sr r).1.y)/\w'.cell? (.q x11 2)=some (.i (zaJ p sr r).1.z)) (first|(with_reducible exact hSq _ hTd.blk h11d h10d)|(with_reducible exact hSq _ hTa.blk h8a h10a)|(with_reducible exact hSq _ hTb.blk h8b h10b))
    (first
      |(go_at_call 14
        refine(hpu _ hTd).mono ?_;rintro e wa ⟨rfl,hTa,hKa⟩;have h8a:=znr hKa h11d (hxb _ hx2)
        have h10a:=znr hKa h10d (hxb _ hx4))
      |(go_at_call 29
        refine(hrpu _ hTa).mono ?_;rintro e wb ⟨rfl,hTb,hKb⟩;have h8b:=znr hKb h8a (hxb _ hx2)
        have h10b:=znr hKb h10a (hxb _ hx4)))
   go_wp2;go_ret;exact⟨jq,_,hJ2,⟨hTb.nav,hTb.ref⟩,(hKd.trans hKa).trans hKb⟩
  ·go_wp2_with fail
   refine(hamo _).mono ?_;clear hamo;rintro e w1 ⟨rfl,hB1⟩;replace hT0:=hT0.below hS hB1;have hK1:jj (zeI nb l rb) w w1:=hKw.trans (jj.of hB1);clear hb0 c0 hKw hA0 hB1;generalize w.heap.size=x5 at*
   have hrg:=(hSg _ hT0.blk).2;obtain⟨c1,_⟩:=hSp _ hT0.blk;go_wp2_with(refine wpList_load_mid rfl 50 (.tmp 40) rfl x5 3 rfl (zvn f) dR hrg huR hdR hiR ?_)
   refine(hof _ hT0).mono ?_;clear hof;rintro e w2 ⟨rfl,hT2,hK2⟩;have h8:(w2.alloc (.cells (v3z ((zaJ p sr r).1)) 24)).heap[w2.heap.size]? =some (.cells (v3z ((zaJ p sr r).1)) 24 (0,0)):=heap_alloc_new w2 _;have hB3:Below w2.heap.size w2 (w2.alloc (.cells (v3z ((zaJ p sr r).1)) 24)):=(Below.refl _ w2).alloc (Nat.le_refl _) _;have hT3:=hT2.below hS hB3;have hK3:=(hK1.trans hK2).trans (jj.of hB3);have hx2:x5<=w2.heap.size:=Nat.le_of_lt (zy hT2.blk);have hrg3:=(hSg _ hT3.blk).2;obtain⟨d1,_⟩:=hSp _ hT3.blk;go_wp2_with(refine wpList_load_mid rfl 50 (.tmp 50) rfl x5 3 rfl (zvn f) dR hrg3 huR hdR hiR ?_)
   refine(hrof _ hT3).mono ?_;clear hrof;rintro e w4 ⟨rfl,hT4,hK4⟩;have h9:=znr hK4 h8 (hxb _ hx2);have h10:(w4.alloc (.cells (v3z ((zaJ p sr r).1)) 24)).heap[w4.heap.size]? =some (.cells (v3z ((zaJ p sr r).1)) 24 (0,0)):=heap_alloc_new w4 _;have hB5:Below w4.heap.size w4 (w4.alloc (.cells (v3z ((zaJ p sr r).1)) 24)):=(Below.refl _ w4).alloc (Nat.le_refl _) _;have h11:(w4.alloc (.cells (v3z ((zaJ p sr r).1)) 24)).heap[w2.heap.size]? =some (.cells (v3z ((zaJ p sr r).1)) 24 (0,0)):=(hB5.block _ (zy h9)).trans h9;have hT5:=hT4.below hS hB5;have hK5:=(hK3.trans hK4).trans (jj.of hB5);have hx4:x5<=w4.heap.size:=Nat.le_of_lt (zy hT4.blk)
   clear hK1 hK2 hK3 hK4 hB3 hB5 h8 h9 hrg hrg3 d1 c1 hT0 hT2 hT3 hT4;obtain⟨x8,hx8⟩:∃x,w2.heap.size=x:=⟨_,rfl⟩;rw [hx8]at h11 hx2⊢;have a0:=zi 0 h11 rfl;have a1:=zi 1 h11 rfl;have a2:=zi 2 h11 rfl;go_wp2;generalize w4.alloc (.cells (v3z ((zaJ p sr r).1)) 24)=w5 at*
   generalize w4.heap.size=x11 at*
   have hTd:AtB nb mb l rb rp cap x5 (Obj.cells (zei f) 52 (0,0)) w5.drew (zaJ p sr r).2.2.2 (zaJ p sr r).2.2.2:=hT5.below hS ⟨rfl,rfl,rfl,Nat.le_refl _,fun _ _=>rfl⟩;have hKd:jj (zeI nb l rb) w w5.drew:=hK5.drew;refine wp_region_held_drew (S:=fun W=>W.cell? (.q x5 1)=some (.i sr)/\W.cell? (.q x5 2)=some (.i tk)) kfz (hSp _ hTd.blk) (fun hHeld=> ?_);refine zag (i:=0) (oi:=⟨some 69,.move (.tmp 10),30,"law.go:60",#[],none⟩) ?_;try simp only [Act.put,sLz]
   refine zag (i:=1) (oi:=⟨some 70,.binOp .neq 30 (.tmp 69) (.const (.i 0)) 30,4,"law.go:60",#[⟨0,.data⟩],none⟩) ?_;try simp only [Act.put,sLz]
   refine zag (i:=2) (oi:=⟨some 71,.move (.tmp 70),4,"law.go:60",#[⟨1,.data⟩],none⟩) ?_;try simp only [Act.put,sLz]
   refine zaG (i:=3) (oi:=⟨some 72,.move (.tmp 0),29,"law.go:60",#[⟨2,.guard⟩],some (2,false)⟩) ?_;try simp only [Act.put,sLz]
   refine zaG (i:=4) (oi:=⟨some 73,.fieldAddr 52 (.tmp 5) 1,0,"law.go:60",#[⟨2,.guard⟩],some (2,false)⟩) ?_;try simp only [Act.put,sLz]
   refine zaG (i:=5) (oi:=⟨some 74,.load 3 (.tmp 73),3,"law.go:60",#[⟨4,.data⟩,⟨2,.guard⟩],some (2,false)⟩) ?_;try simp only [Act.put,sLz]
   refine zaG (i:=6) (oi:=⟨some 75,.load 24 (.tmp 8),24,"law.go:60",#[⟨2,.guard⟩],some (2,false)⟩) ?_;try simp only [Act.put,sLz]
   refine zaG (i:=7) (oi:=⟨some 76,.fieldAddr 52 (.tmp 5) 2,0,"law.go:60",#[⟨2,.guard⟩],some (2,false)⟩) ?_;try simp only [Act.put,sLz]
   refine zaG (i:=8) (oi:=⟨some 77,.load 3 (.tmp 76),3,"law.go:60",#[⟨7,.data⟩,⟨2,.guard⟩],some (2,false)⟩) ?_;try simp only [Act.put,sLz]
   refine zaG (i:=9) (oi:=⟨some 78,.call ⟨.value (.func 14),#[(.tmp 72),(.tmp 74),(.tmp 75),(.tmp 77)],#[29,3,24,3]⟩,30,"law.go:60",#[⟨3,.data⟩,⟨5,.data⟩,⟨6,.data⟩,⟨8,.data⟩,⟨2,.chain⟩,⟨2,.guard⟩],some (2,false)⟩) ?_;try simp only [Act.put,sLz]
   refine zaG (i:=10) (oi:=⟨some 79,.move (.tmp 1),34,"law.go:60",#[⟨2,.guard⟩],some (2,false)⟩) ?_;try simp only [Act.put,sLz]
   refine zaG (i:=11) (oi:=⟨some 80,.fieldAddr 52 (.tmp 5) 1,0,"law.go:60",#[⟨2,.guard⟩],some (2,false)⟩) ?_;try simp only [Act.put,sLz]
   refine zaG (i:=12) (oi:=⟨some 81,.load 3 (.tmp 80),3,"law.go:60",#[⟨11,.data⟩,⟨2,.guard⟩],some (2,false)⟩) ?_;try simp only [Act.put,sLz]
   refine zaG (i:=13) (oi:=⟨some 82,.load 24 (.tmp 11),24,"law.go:60",#[⟨2,.guard⟩],some (2,false)⟩) ?_;try simp only [Act.put,sLz]
   refine zaG (i:=14) (oi:=⟨some 83,.fieldAddr 52 (.tmp 5) 2,0,"law.go:60",#[⟨2,.guard⟩],some (2,false)⟩) ?_;try simp only [Act.put,sLz]
   refine zaG (i:=15) (oi:=⟨some 84,.load 3 (.tmp 83),3,"law.go:60",#[⟨14,.data⟩,⟨2,.guard⟩],some (2,false)⟩) ?_;try simp only [Act.put,sLz]
   refine zaG (i:=16) (oi:=⟨some 85,.call ⟨.value (.func 29),#[(.tmp 79),(.tmp 81),(.tmp 82),(.tmp 84)],#[34,3,24,3]⟩,30,"law.go:60",#[⟨10,.data⟩,⟨12,.data⟩,⟨13,.data⟩,⟨15,.data⟩,⟨9,.chain⟩,⟨2,.guard⟩],some (2,false)⟩) ?_;try simp only [Act.put,sLz]
   refine zaG (i:=17) (oi:=⟨some 86,.binOp .eql 30 (.tmp 78) (.tmp 85) 30,4,"law.go:60",#[⟨9,.data⟩,⟨16,.data⟩,⟨2,.guard⟩],some (2,false)⟩) ?_;try simp only [Act.put,sLz]
   refine zag (i:=18) (oi:=⟨some 87,.pick (.tmp 71) (.const (.bool true)) (.tmp 86),4,"law.go:60",#[⟨2,.data⟩,⟨17,.data⟩],none⟩) ?_;try simp only [Act.put,sLz]
   refine zag (i:=19) (oi:=⟨some 6,.assign (.tmp 87),4,"law.go:60",#[⟨18,.data⟩,⟨16,.chain⟩,⟨0,.phase⟩,⟨1,.phase⟩,⟨2,.phase⟩,⟨3,.phase⟩,⟨4,.phase⟩,⟨5,.phase⟩,⟨6,.phase⟩,⟨7,.phase⟩,⟨8,.phase⟩,⟨9,.phase⟩,⟨10,.phase⟩,⟨11,.phase⟩,⟨12,.phase⟩,⟨13,.phase⟩,⟨14,.phase⟩,⟨15,.phase⟩,⟨16,.phase⟩,⟨17,.phase⟩,⟨18,.phase⟩],none⟩) ?_;try simp only [Act.put,sLz]
   refine wpAnyH_done kfz ?_ _;go_wp2;go_ret;exact⟨jq,_,hJ,⟨hTd.nav,hTd.ref⟩,hKd⟩
  ·go_wp2_with fail
   refine(hamo _).mono ?_;clear hamo;rintro e w1 ⟨rfl,hB1⟩;replace hT0:=hT0.below hS hB1;have hK1:jj (zeI nb l rb) w w1:=hKw.trans (jj.of hB1);clear hb0 c0 hKw hA0 hB1;generalize w.heap.size=x5 at*
   have hrg:=(hSg _ hT0.blk).2;obtain⟨c1,_⟩:=hSp _ hT0.blk;go_wp2_with(refine wpList_load_mid rfl 50 (.tmp 40) rfl x5 3 rfl (zvn f) dR hrg huR hdR hiR ?_)
   refine(hof _ hT0).mono ?_;clear hof;rintro e w2 ⟨rfl,hT2,hK2⟩;have h8:(w2.alloc (.cells (v3z ((zaJ p sr r).1)) 24)).heap[w2.heap.size]? =some (.cells (v3z ((zaJ p sr r).1)) 24 (0,0)):=heap_alloc_new w2 _;have hB3:Below w2.heap.size w2 (w2.alloc (.cells (v3z ((zaJ p sr r).1)) 24)):=(Below.refl _ w2).alloc (Nat.le_refl _) _;have hT3:=hT2.below hS hB3;have hK3:=(hK1.trans hK2).trans (jj.of hB3);have hx2:x5<=w2.heap.size:=Nat.le_of_lt (zy hT2.blk);have hrg3:=(hSg _ hT3.blk).2;obtain⟨d1,_⟩:=hSp _ hT3.blk;go_wp2_with(refine wpList_load_mid rfl 50 (.tmp 50) rfl x5 3 rfl (zvn f) dR hrg3 huR hdR hiR ?_)
   refine(hrof _ hT3).mono ?_;clear hrof;rintro e w4 ⟨rfl,hT4,hK4⟩;have h9:=znr hK4 h8 (hxb _ hx2);have h10:(w4.alloc (.cells (v3z ((zaJ p sr r).1)) 24)).heap[w4.heap.size]? =some (.cells (v3z ((zaJ p sr r).1)) 24 (0,0)):=heap_alloc_new w4 _;have hB5:Below w4.heap.size w4 (w4.alloc (.cells (v3z ((zaJ p sr r).1)) 24)):=(Below.refl _ w4).alloc (Nat.le_refl _) _;have h11:(w4.alloc (.cells (v3z ((zaJ p sr r).1)) 24)).heap[w2.heap.size]? =some (.cells (v3z ((zaJ p sr r).1)) 24 (0,0)):=(hB5.block _ (zy h9)).trans h9;have hT5:=hT4.below hS hB5;have hK5:=(hK3.trans hK4).trans (jj.of hB5);have hx4:x5<=w4.heap.size:=Nat.le_of_lt (zy hT4.blk)
   clear hK1 hK2 hK3 hK4 hB3 hB5 h8 h9 hrg hrg3 d1 c1 hT0 hT2 hT3 hT4;obtain⟨x8,hx8⟩:∃x,w2.heap.size=x:=⟨_,rfl⟩;rw [hx8]at h11 hx2⊢;have a0:=zi 0 h11 rfl;have a1:=zi 1 h11 rfl;have a2:=zi 2 h11 rfl;go_wp2;generalize w4.alloc (.cells (v3z ((zaJ p sr r).1)) 24)=w5 at*
   generalize w4.heap.size=x11 at*
   have hTd:AtB nb mb l rb rp cap x5 (Obj.cells (zei f) 52 (0,0)) w5.drew (zaJ p sr r).2.2.2 (zaJ p sr r).2.2.2:=hT5.below hS ⟨rfl,rfl,rfl,Nat.le_refl _,fun _ _=>rfl⟩;have hKd:jj (zeI nb l rb) w w5.drew:=hK5.drew;refine wp_region_held_drew (S:=fun W=>W.cell? (.q x5 1)=some (.i sr)/\W.cell? (.q x5 2)=some (.i tk)) kfz (hSp _ hTd.blk) (fun hHeld=> ?_);refine zag (i:=0) (oi:=⟨some 69,.move (.tmp 10),30,"law.go:60",#[],none⟩) ?_;try simp only [Act.put,sLz]
   refine zag (i:=1) (oi:=⟨some 70,.binOp .neq 30 (.tmp 69) (.const (.i 0)) 30,4,"law.go:60",#[⟨0,.data⟩],none⟩) ?_;try simp only [Act.put,sLz]
   refine zag (i:=2) (oi:=⟨some 71,.move (.tmp 70),4,"law.go:60",#[⟨1,.data⟩],none⟩) ?_;try simp only [Act.put,sLz]
   refine zaG (i:=3) (oi:=⟨some 72,.move (.tmp 0),29,"law.go:60",#[⟨2,.guard⟩],some (2,false)⟩) ?_;try simp only [Act.put,sLz]
   refine zaG (i:=4) (oi:=⟨some 73,.fieldAddr 52 (.tmp 5) 1,0,"law.go:60",#[⟨2,.guard⟩],some (2,false)⟩) ?_;try simp only [Act.put,sLz]
   refine zaG (i:=5) (oi:=⟨some 74,.load 3 (.tmp 73),3,"law.go:60",#[⟨4,.data⟩,⟨2,.guard⟩],some (2,false)⟩) ?_;try simp only [Act.put,sLz]
   refine zaG (i:=6) (oi:=⟨some 75,.load 24 (.tmp 8),24,"law.go:60",#[⟨2,.guard⟩],some (2,false)⟩) ?_;try simp only [Act.put,sLz]
   refine zaG (i:=7) (oi:=⟨some 76,.fieldAddr 52 (.tmp 5) 2,0,"law.go:60",#[⟨2,.guard⟩],some (2,false)⟩) ?_;try simp only [Act.put,sLz]
   refine zaG (i:=8) (oi:=⟨some 77,.load 3 (.tmp 76),3,"law.go:60",#[⟨7,.data⟩,⟨2,.guard⟩],some (2,false)⟩) ?_;try simp only [Act.put,sLz]
   refine zaG (i:=9) (oi:=⟨some 78,.call ⟨.value (.func 14),#[(.tmp 72),(.tmp 74),(.tmp 75),(.tmp 77)],#[29,3,24,3]⟩,30,"law.go:60",#[⟨3,.data⟩,⟨5,.data⟩,⟨6,.data⟩,⟨8,.data⟩,⟨2,.chain⟩,⟨2,.guard⟩],some (2,false)⟩) ?_;try simp only [Act.put,sLz]
   refine zaG (i:=10) (oi:=⟨some 79,.move (.tmp 1),34,"law.go:60",#[⟨2,.guard⟩],some (2,false)⟩) ?_;try simp only [Act.put,sLz]
   refine zaG (i:=11) (oi:=⟨some 80,.fieldAddr 52 (.tmp 5) 1,0,"law.go:60",#[⟨2,.guard⟩],some (2,false)⟩) ?_;try simp only [Act.put,sLz]
   refine zaG (i:=12) (oi:=⟨some 81,.load 3 (.tmp 80),3,"law.go:60",#[⟨11,.data⟩,⟨2,.guard⟩],some (2,false)⟩) ?_;try simp only [Act.put,sLz]
   refine zaG (i:=13) (oi:=⟨some 82,.load 24 (.tmp 11),24,"law.go:60",#[⟨2,.guard⟩],some (2,false)⟩) ?_;try simp only [Act.put,sLz]
   refine zaG (i:=14) (oi:=⟨some 83,.fieldAddr 52 (.tmp 5) 2,0,"law.go:60",#[⟨2,.guard⟩],some (2,false)⟩) ?_;try simp only [Act.put,sLz]
   refine zaG (i:=15) (oi:=⟨some 84,.load 3 (.tmp 83),3,"law.go:60",#[⟨14,.data⟩,⟨2,.guard⟩],some (2,false)⟩) ?_;try simp only [Act.put,sLz]
   refine zaG (i:=16) (oi:=⟨some 85,.call ⟨.value (.func 29),#[(.tmp 79),(.tmp 81),(.tmp 82),(.tmp 84)],#[34,3,24,3]⟩,30,"law.go:60",#[⟨10,.data⟩,⟨12,.data⟩,⟨13,.data⟩,⟨15,.data⟩,⟨9,.chain⟩,⟨2,.guard⟩],some (2,false)⟩) ?_;try simp only [Act.put,sLz]
   refine zaG (i:=17) (oi:=⟨some 86,.binOp .eql 30 (.tmp 78) (.tmp 85) 30,4,"law.go:60",#[⟨9,.data⟩,⟨16,.data⟩,⟨2,.guard⟩],some (2,false)⟩) ?_;try simp only [Act.put,sLz]
   refine zag (i:=18) (oi:=⟨some 87,.pick (.tmp 71) (.const (.bool true)) (.tmp 86),4,"law.go:60",#[⟨2,.data⟩,⟨17,.data⟩],none⟩) ?_;try simp only [Act.put,sLz]
   refine zag (i:=19) (oi:=⟨some 6,.assign (.tmp 87),4,"law.go:60",#[⟨18,.data⟩,⟨16,.chain⟩,⟨0,.phase⟩,⟨1,.phase⟩,⟨2,.phase⟩,⟨3,.phase⟩,⟨4,.phase⟩,⟨5,.phase⟩,⟨6,.phase⟩,⟨7,.phase⟩,⟨8,.phase⟩,⟨9,.phase⟩,⟨10,.phase⟩,⟨11,.phase⟩,⟨12,.phase⟩,⟨13,.phase⟩,⟨14,.phase⟩,⟨15,.phase⟩,⟨16,.phase⟩,⟨17,.phase⟩,⟨18,.phase⟩],none⟩) ?_;try simp only [Act.put,sLz]
   refine wpAnyH_done kfz ?_ _;go_wp2;go_ret;exact⟨jq,_,hJ,⟨hTd.nav,hTd.ref⟩,hKd⟩
 ·have hpu:=fun W h=>zPv (nb:=nb) (mb:=mb) (l:=l) (rb:=rb) (rp:=rp) (cap:=cap) (x:=w.heap.size) (A:=(Obj.cells (zei f) 52 (0,0))) (p2:=p) hS hx hI sr y hy tk W h
  have hrpu:=fun W h=>zMc (nb:=nb) (mb:=mb) (l:=l) (rb:=rb) (rp:=rp) (cap:=cap) (x:=w.heap.size) (A:=(Obj.cells (zei f) 52 (0,0))) (p1:=(zkJ p sr y tk).2) hxr hS hI sr y hy tk W h
  have hJ:=zEx hI sr y tk;clear hSp hSg hgt hrd hA hrr hrq huR hdR hiR;go_wp2_with fail
  refine(hamo _).mono ?_;clear hamo;rintro e w1 ⟨rfl,hB1⟩;replace hT0:=hT0.below hS hB1;have hK1:jj (zeI nb l rb) w w1:=hKw.trans (jj.of hB1);clear hb0 c0 hKw hA0 hB1;generalize w.heap.size=x5 at*
  have hTd:AtB nb mb l rb rp cap x5 (Obj.cells (zei f) 52 (0,0)) w1.drew p p:=hT0.below hS ⟨rfl,rfl,rfl,Nat.le_refl _,fun _ _=>rfl⟩;have hKd:jj (zeI nb l rb) w w1.drew:=hK1.drew;go_wp2;go_region_held3(fun w'=>w'.cell? (.q x5 1)=some (.i sr)/\w'.cell? (.q x5 2)=some (.i tk)/\w'.cell? (.q x5 60)=some (.i y.x)/\w'.cell? (.q x5 61)=some (.i y.y)/\w'.cell? (.q x5 62)=some (.i y.z)) (first|(with_reducible exact hSy _ hTd.blk)|(with_reducible exact hSy _ hTa.blk)|(with_reducible exact hSy _ hTb.blk))
   (first
     |(go_at_call 14
       refine(hpu _ hTd).mono ?_
       rintro e wa ⟨rfl,hTa,hKa⟩)
     |(go_at_call 29
       refine(hrpu _ hTa).mono ?_
       rintro e wb ⟨rfl,hTb,hKb⟩))
  go_wp2;go_ret;exact⟨jq,_,hJ,⟨hTb.nav,hTb.ref⟩,(hKd.trans hKa).trans hKb⟩
 ·have hti:=fun W h=>zVi (nb:=nb) (mb:=mb) (l:=l) (rb:=rb) (rp:=rp) (cap:=cap) (x:=w.heap.size) (A:=(Obj.cells (zei f) 52 (0,0))) (p2:=p) hS hx hI tk W h
  have hrti:=fun W h=>zTA (nb:=nb) (mb:=mb) (l:=l) (rb:=rb) (rp:=rp) (cap:=cap) (x:=w.heap.size) (A:=(Obj.cells (zei f) 52 (0,0))) (p1:=(zor p tk).2) hxr hS hI tk W h
  have hJ:=zRs hI tk;have hSt:∀W:World,W.heap[w.heap.size]? =some (Obj.cells (zei f) 52 (0,0))->W.cell? (.q w.heap.size 2)=some (.i tk):=fun W h=>(hSp W h).2
  clear hSp hSg hgt hrd hA hrr hrq huR hdR hiR hSy;go_wp2_with fail
  refine(hamo _).mono ?_;clear hamo;rintro e w1 ⟨rfl,hB1⟩;replace hT0:=hT0.below hS hB1;have hK1:jj (zeI nb l rb) w w1:=hKw.trans (jj.of hB1);clear hb0 c0 hKw hA0 hB1;generalize w.heap.size=x5 at*
  have hTd:AtB nb mb l rb rp cap x5 (Obj.cells (zei f) 52 (0,0)) w1.drew p p:=hT0.below hS ⟨rfl,rfl,rfl,Nat.le_refl _,fun _ _=>rfl⟩;have hKd:jj (zeI nb l rb) w w1.drew:=hK1.drew;go_wp2;go_region_held3(fun w'=>w'.cell? (.q x5 2)=some (.i tk)) (first|(with_reducible exact hSt _ hTd.blk)|(with_reducible exact hSt _ hTa.blk)|(with_reducible exact hSt _ hTb.blk))
   (first
     |(go_at_call 15
       refine(hti _ hTd).mono ?_
       rintro e wa ⟨rfl,hTa,hKa⟩)
     |(go_at_call 30
       refine(hrti _ hTa).mono ?_
       rintro e wb ⟨rfl,hTb,hKb⟩))
  go_wp2;go_ret;exact⟨jq,_,hJ,⟨hTb.nav,hTb.ref⟩,(hKd.trans hKa).trans hKb⟩
end Go.Xv
