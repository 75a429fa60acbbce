/-
Package ulplaw17: free, like, lives; TrigEncloses.
ulplaw17: sound; Touch and Lies of ulpref06; TrigCircle, TrigMirror.
ulplaw17: TrigCircle.
Package ulplaw18: statements without the document: their helpers and runs.
ulplaw17: TrigMirror.
ulplaw17: TrigBounds, TrigBoth: their runs.
ulplaw17: TrigBoth.
ulplaw17: TrigBounds; ulpref01.Less.
ulplaw17: TrigBounds.
ulplaw17: TrigBounds: the statement.
ulplaw17: TrigTwice: its run.
ulplaw17: sines and cosines of sums of sequences of angles, turned. Plain.
ulplaw17: twice the angle. Plain.
ulplaw17: ulpref04.To, ulpref01.Join: runs.
ulplaw17: the word of ulpref01.Join.
ulplaw17: the word of ulpref04.To: what is answered as the number's word is a finite number of the same value.
ulplaw17: TrigTwice: of twice the angle the sine is twice sine times cosine, the cosine 1 less twice the sine's square.
From the arguments of a row to numbers and intervals; what a law's call leaves.
-/
import Derived.Test.YtenkjloaghmjfaaGreatDoorMg4
import Derived.Test.YtenkjloaghmjfaaGreatDoorMg2
import Derived.ProofKit
import Derived.LaidMore
import Derived.OpenShut
import Derived.LaidLaws
import Derived.Carry
import Derived.OpenVars
import Derived.Deep.Strs
import Derived.ChangeCalls
import Derived.Stop.Joined
namespace Go.Proofs.YtenkjloaghmjfaaGreatDoor
open Go.RowKit
theorem flt_zero:fltD 0=⟨false,[],0⟩:=by rw [fltD,mkD_K];kernel_rfl
theorem flt_one:fltD 4607182418800017408=⟨false,[1],0⟩:=by rw [fltD,mkD_K];kernel_rfl
theorem zero_f2:OneF ⟨false,[],0⟩:=⟨false,0,0,by decide,rfl⟩
theorem quar_zero{p:Int}(p0:8≤p)(p1:p≤3968):(quarR ⟨false,[],0⟩ p).2.2=0:=by
  have c:condQ ⟨false,[],0⟩ p:=⟨by rw [fits_K];decide +kernel,p0,p1⟩
  have o:oneD (⟨false,[],0⟩:Dx)=⟨false,[],0⟩:=oneD_id zero_f2
  rcases quar_cases ⟨false,[],0⟩ p with ⟨k,_⟩|⟨_,_,q⟩|⟨_,k,_⟩|⟨_,k,_⟩|⟨_,k,_⟩
  · exact absurd c k
  · rw [q]
  all_goals (rw [o] at k;exact absurd rfl k)
theorem encTr_0{x p:Int}(e:¬ fexp x=2047)(p0:8≤p)(p1:p≤2048){S C:Vx}{n:Int}(F:FltPair (fltD x) p S C n)(h0:(quarR (fltD x) (p+32)).2.2=0) :
    encTr 13 x p=(trimV (turnP (n % 4) (S,C)).1 (p+8),0)∧encTr 14 x p=(trimV (turnP (n % 4) (S,C)).2 (p+8),0)∧encTr 15 x p=(trimV (divV (turnP (n % 4) (S,C)).1 (turnP (n % 4) (S,C)).2 (p+24)) (p+8),0):=by
  have b:=bothTr_eq F h0
  refine ⟨?_,?_,?_⟩
  · rw [encTr,if_pos ⟨rfl,p0,p1⟩,if_neg e,b,if_pos rfl,if_neg (by decide),if_neg (by decide)]
  · rw [encTr,if_pos ⟨rfl,p0,p1⟩,if_neg e,b,if_pos rfl,if_pos rfl]
  · rw [encTr,if_pos ⟨rfl,p0,p1⟩,if_neg e,b,if_pos rfl,if_neg (by decide),if_pos rfl]
theorem lv_zero:encTr 13 0 64=(zeroIv,0)∧(encTr 14 0 64).2=0∧hasV (encTr 14 0 64).1 (mkS 1 0)=true:=by
  have e:¬ fexp 0=2047:=by decide
  have h0:(quarR (fltD 0) (64+32)).2.2=0:=by rw [flt_zero];exact quar_zero (by decide) (by decide)
  obtain ⟨S,C,n,F⟩:=flt_pair (fltD_f 0) (fltD_bd e) (p:=64) (by decide) (by decide) h0
  obtain ⟨e3,e4,_⟩:=encTr_0 e (p:=64) (by decide) (by decide) F h0
  have z:(fltD 0).rv=0:=by rw [flt_zero];exact zero_rv
  rcases F.s with ⟨_,rfl,rfl⟩|⟨k,_⟩
  rotate_left
  · exact absurd z k
  obtain ⟨_,hc⟩:=F.half
  have er:cosQ (rhS (fltD 0).rv 0)=cosS 0:=funext fun i=>by
    have:rhS (fltD 0).rv 0 i=0:=by
      unfold rhS;rw [z]
      have:((0:Int):Rat)=0:=rfl
      rw [this];grind
    unfold cosQ;rw [this]
  have en:=hc.e
  rw [er] at en
  have i:InV C 1:=⟨en.meets enc_cos0,enc_cos0.meets en⟩
  rw [e3,e4,show (0:Int) % 4=0 from rfl,tr0]
  refine ⟨by rw [trim_zero _ (by decide)],rfl,hasV_of ?_ one_fits (by rw [rv_int];exact trim_in2 hc.p (by decide) i)⟩
  exact (encl_parts (half_encl (p:=64) hc hc.e (by decide) (rlL (p2_pos _)) Rat.le_refl)).1
theorem quar_one:(quarR ⟨false,[1],0⟩ 96).2.2=0∧(quarR ⟨false,[1],0⟩ 96).1=1:=by
  have f1:OneF ⟨false,[1],0⟩:=lit_f (by decide) (by decide) (by decide)
  have o1:=oneD_id f1
  have r1:(⟨false,[1],0⟩:Dx).rv=1:=by rw [lit_rv,p2_v.1];decide +kernel
  have t1:topD ⟨false,[1],0⟩=0:=by decide +kernel
  have k1:(⟨false,[1],0⟩:Dx).fitsB=true:=by rw [fits_K];decide +kernel
  have hf:=halfP_hf (w:=160) (by decide) (by decide)
  obtain ⟨c,hc,c1,c2⟩:=hf.mid
  have ed:p2 (-3-160)/2+eps 160≤1/1000:=by decide +kernel
  have eE:2*(1*(p2 (-3-160)/2)+eps 160*(1+8*1))≤p2 (-2-96):=by decide +kernel
  have i0:0<c:=by grind
  have ic:=Rat.inv_mul_cancel c (by grind)
  have ip:=Rat.inv_pos.2 i0
  have j1:(6:Rat)/10≤c⁻¹:=by
    rw [←Rat.not_lt];intro hlt
    have:=Rat.mul_lt_mul_of_pos_right hlt i0
    grind
  have j2:c⁻¹≤7/10:=by
    rw [←Rat.not_lt];intro hlt
    have:=Rat.mul_lt_mul_of_pos_right hlt i0
    grind
  have e1:((1:Int):Rat)=1:=rfl
  obtain ⟨s1,s2,s3,s4⟩:=quart_ok hf (x:=⟨false,[1],0⟩) f1.p (w:=160) (by decide) (by decide) (A:=1) (B:=1) hc (by rw [r1];decide) (by rw [r1];decide) (m:=1) (a:=-2) (p:=96) (by decide) (by decide) (by rw [r1,e1];grind) (by rw [r1,e1];grind) (by decide +kernel) (by decide +kernel) (.inr (by
    rw [r1,e1,show (-2:Int)+1 = -1 by decide,p2_v.2.2.1];grind)) (by decide) eE (by decide) (by decide)
  obtain ⟨ok,e⟩:=okW_of s1 s3 s4
  have en:by4I (nW (halfP 160) ⟨false,[1],0⟩ 160)=1:=by rw [by4_mod,s2];rfl
  have q:quarR ⟨false,[1],0⟩ 96=(1,restW (halfP 160) ⟨false,[1],0⟩ 160,0):=by
    rw [quarR,o1,if_pos ⟨k1,by decide,by decide⟩,if_neg (by decide +kernel),t1,if_neg (by decide)]
    show quarL _ 96 (8+1) (0+96+64)=_
    rw [quarL,show min (0+96+64:Int) 8192=160 by decide,if_pos ok,e,en]
  rw [q];exact ⟨rfl,rfl⟩
theorem lv_tan:(encTr 15 4607182418800017408 64).2=0∧0<cmpD (encTr 15 4607182418800017408 64).1.lo (mkS 1 0)∧narrowB (encTr 15 4607182418800017408 64).1 64=true∧(encTr 15 4607182418800017408 64).1.Sm 65536:=by
  have e:¬ fexp 4607182418800017408=2047:=by decide
  obtain ⟨q0,q1⟩:=quar_one
  have r1:(⟨false,[1],0⟩:Dx).rv=1:=by rw [lit_rv,p2_v.1];decide +kernel
  have h0:(quarR (fltD 4607182418800017408) (64+32)).2.2=0:=by rw [flt_one];exact q0
  obtain ⟨S,C,n,F⟩:=flt_pair (fltD_f 4607182418800017408) (fltD_bd e) (p:=64) (by decide) (by decide) h0
  obtain ⟨_,_,e5⟩:=encTr_0 e (p:=64) (by decide) (by decide) F h0
  have dr:(fltD 4607182418800017408).rv=1:=by rw [flt_one];exact r1
  have nk:n % 4=1:=by
    have:=F.k
    rw [flt_one] at this
    rw [←this];exact q1
  have n1:n=1:=by
    rcases F.qn.near with ⟨a,_⟩|⟨w,w0,w1,f⟩
    · rw [dr] at a;exact absurd a (by decide +kernel)
    · have hf:=halfP_hf w0 (show w≤65000 by omega)
      have g:=f (halfP w).lo.rv ⟨Rat.le_refl,hf.le⟩
      have lo:=hf.lo
      have i0:0<(halfP w).lo.rv:=by grind
      have ip:=Rat.inv_pos.2 i0
      have ic:=Rat.inv_mul_cancel (halfP w).lo.rv (by grind)
      have j:(halfP w).lo.rv⁻¹≤1:=by
        rw [←Rat.not_lt];intro hlt
        have:=Rat.mul_lt_mul_of_pos_right hlt i0
        grind
      rw [dr,Rat.one_mul] at g
      have a1:(-1:Int)<n:=by
        have:((-1:Int):Rat)<(n:Rat):=by
          have c:((-1:Int):Rat) = -1:=rfl
          rw [c];have:=g.2.1;grind
        exact_mod_cast this
      have a2:n<2:=by
        have:(n:Rat)<((2:Int):Rat):=by
          have c:((2:Int):Rat)=2:=rfl
          rw [c];have:=g.1;grind
        exact_mod_cast this
      omega
  obtain ⟨hs,hc⟩:=F.half
  obtain ⟨z,i1,i2,z1,z2⟩:∃ z,(quarR (fltD 4607182418800017408) (64+32)).2.1.lo.rv≤z∧z≤(quarR (fltD 4607182418800017408) (64+32)).2.1.hi.rv∧-(572/1000)≤z∧z≤-(57/100):=by
    have en:=F.qn.enc
    rw [dr,n1] at en
    have ep:Enc (rhS 1 1) (-(5709/10000)) (-(5707/10000)):=by
      have a:=((piS_enc.scale (c:=1/2) (by decide +kernel)).neg).add (Enc.const 1)
      have eq:(fun n=>-(1/2*piS n)+1)=rhS 1 1:=funext fun i=>by
        unfold rhS
        have:((1:Int):Rat)=1:=rfl
        rw [this];grind
      rw [eq] at a
      exact a.wide (by decide +kernel) (by decide +kernel)
    have m1:=en.meets ep
    have m2:=ep.meets en
    have le:=en.self
    by_cases c:(quarR (fltD 4607182418800017408) (64+32)).2.1.lo.rv≤-(5709/10000)
    · exact ⟨-(5709/10000),c,m2,by decide +kernel,by decide +kernel⟩
    · exact ⟨_,Rat.le_refl,le,by grind,by grind⟩
  have es:=(F.K.sin z i1 i2).neg
  have ec:=F.K.cos z i1 i2
  have en:(fun n=>-sinS z n)=sinS (-z):=funext fun n=>(sinS_neg z n).symm
  rw [en] at es
  obtain ⟨b1,b2⟩:=sinS_bd (t:=-z) (by grind) (by grind) es
  obtain ⟨b3,b4⟩:=cosS_bd (t:=z) (by grind) (by grind) ec
  have zz:z*z≤4/10:=by
    have:=(show Ab z (572/1000) from ⟨by grind,by grind⟩).sq
    have e:(572:Rat)/1000*(572/1000)≤4/10:=by decide +kernel
    grind
  have eta:p2 (-19-64)≤1/1000:=by decide +kernel
  have cn:=F.K.cn
  have C1:78/100≤C.lo.rv:=by
    have m:=rmR eta (rlL cn.1)
    have:=cn.2.2
    have c1:=F.K.c1
    grind
  have S1:S.hi.rv<0∧-S.lo.rv≤6/10:=by
    rcases F.s with ⟨a,_⟩|⟨_,sv⟩
    · rw [dr] at a;exact absurd a (by decide +kernel)
    · rcases sv with v | v
      · exfalso
        have:=v.nar.1
        have:=sinS_bd0 (t:=-z) (by grind) (by grind) es
        grind
      · have m:=rmR eta (rlL v.nar.1)
        have:=v.nar.2.2
        have:=v.nar.1
        exact ⟨by grind,by grind⟩
  obtain ⟨A,hA⟩:∃ A:Int,A = -8263:=⟨_,rfl⟩
  have sv:VM (p2 (-19-64)) (p2 A) (p2 5) S:=by
    rcases F.s with ⟨a,_⟩|⟨_,sv⟩
    · rw [dr] at a;exact absurd a (by decide +kernel)
    · rw [hA];exact sv
  obtain ⟨off,fin⟩:=quo_fin (A:=-3) (B:=3) (C:=A) (D:=5) (p:=64) (q:=64+24) hc.p (turnV_P S) (divV_p _ _ _) F.c (sv.turn hs.p) (rlL (p2_pos _)) Rat.le_refl (by decide) (by decide) (by decide) (by omega) (by omega)
  rw [e5,nk,tr1]
  have tr:=turn_rv hs.p
  have le:=hs.e.self
  have iz:InV (turnV S) (-S.lo.rv):=⟨by rw [tr.1];grind,by rw [tr.2];exact Rat.le_refl⟩
  have ix:InV C C.lo.rv:=⟨Rat.le_refl,hc.e.self⟩
  have iy:=trim_in2 (p:=64+8) (divV_p C (turnV S) (64+24)) (by decide) (div_in hc.p (turnV_P S) off (by decide) ix iz)
  have y0:0 < -S.lo.rv:=by have:=S1.1;grind
  have yc:=Rat.inv_mul_cancel (-S.lo.rv) (by grind)
  have big:13/10≤C.lo.rv*(-S.lo.rv)⁻¹:=by
    rw [←Rat.not_lt];intro hlt
    have m:=Rat.mul_lt_mul_of_pos_right hlt y0
    rw [Rat.mul_assoc,yc,Rat.mul_one] at m
    have:=S1.2
    grind
  have vn:=nar_of_narrow fin.q fin.n
  have e64:p2 (-64)≤1/100:=by decide +kernel
  have r1':(mkS 1 0).rv=1:=rv_int 1
  refine ⟨rfl,cmpD_gt0.2 ?_,fin.n,right_sm fin.r⟩
  rw [r1']
  have i2:=iy.2
  rcases vn with ⟨a,b⟩|⟨a,b,c⟩|⟨a,b,c⟩
  · exfalso;grind
  · have m:=rmR e64 (rlL a)
    grind
  · exfalso;grind
theorem sLv17_ok:SpecsOk Tryz.prog (sLv17 encTr (fun n=>mkS n 0) hasV sameV narrowB cmpD isTr):=⟨rEp_ok,fInt_ok,gHas_ok,gSame_ok,gNarrow_ok,fOrder_ok,rIs_ok,trivial⟩
theorem lLv17_ok:SpecOk Tryz.prog 13 wTrue :=
  specK_ok (envOk tysR_ok sLv17_ok) mixed Tryz.func13 rfl (by decide) (by decide) fun _=>⟨fun _=>none,0,by
    show execF _ _ _ _ _ (fun t=>t=bT true)
    have z:(⟨⟨false,[],0⟩,⟨false,[],0⟩⟩:Vx)=zeroIv:=rfl
    obtain ⟨a1,a2,a3⟩:=lv_zero
    obtain ⟨b1,b2,b3,b4⟩:=lv_tan
    have c1:(encTr 15 9218868437227405312 64).2=5:=by rw [encTr,if_pos ⟨rfl,by decide,by decide⟩,if_pos (by decide)]
    refine (lLv17_vc encTr (fun n=>mkS n 0) hasV sameV narrowB cmpD isTr _).mpr ⟨⟨by omega,by omega⟩,⟨by omega,by omega⟩,⟨by omega,by omega⟩,⟨by omega,by omega⟩,?_⟩
    rw [a1,z,sameV_refl,a2,a3,b1,ltI_true.2 b2,b3,c1]
    exact ⟨⟨by omega,by omega⟩,⟨by omega,by omega⟩,⟨b4.1.mono (by omega),(mkS_sm6 (n:=1) (by omega)).mono (by omega)⟩,rfl,rfl⟩⟩
theorem flt_codes{d:Dx}(fd:OneF d)(hb:d.Bd 1074 1024){p:Int}(p0:8≤p)(p1:p≤2048):((quarR d (p+32)).2.2=0∨(quarR d (p+32)).2.2=6∧hardB d=true)∧((hquR d (p+24)).2.2=0∨(hquR d (p+24)).2.2=6):=by
  have cf:=flt_fits fd hb
  have ct:=flt_top fd hb
  constructor
  · have c:condQ d (p+32):=⟨cf,by omega,by omega⟩
    rcases quar_cases d (p+32) with ⟨k,_⟩|⟨_,_,q⟩|⟨_,_,k,_⟩|⟨_,_,_,q⟩|⟨_,_,_,w,q⟩
    · exact absurd c k
    · rw [q];exact .inl rfl
    · omega
    · rcases ql d fd.p (p+32) with ⟨c,h1,_,hc⟩|⟨h1,_,_⟩|⟨_,_,hh,_,_⟩|⟨k,r,h1,_⟩
      · rw [q] at h1;cases h1;exact absurd rfl hc.2
      · rw [q] at h1;cases h1
      · rw [q];exact .inr ⟨rfl,hh⟩
      · rw [q] at h1;cases h1
    · rw [q.eq];exact .inl rfl
  · have c:condQ d (p+24):=⟨cf,by omega,by omega⟩
    have fq:=faultQ_eq fd.p (p+24)
    rw [if_pos c,if_neg (by omega)] at fq
    unfold hquR
    split
    · rw [fq];exact .inl rfl
    · rcases hquL_spec (x:=d) (p:=p+24) 9 (max (topD (oneD d)) 0+(p+24)+64) (by omega) with e | ⟨w,_,_,_,e⟩
      · rw [e];exact .inr rfl
      · rw [e];exact .inl rfl
def touchB(v u:Vx):Bool:=leI (cmpD v.lo u.hi) 0 && leI (cmpD u.lo v.hi) 0
def gTouch:Spec:=specK [.v,.v] fun (v:Vx) (u:Vx)=>(some (v.Sm 34359738368∧u.Sm 34359738368),bT (touchB v u))
theorem gTouch_vc(v u:Vx)(Q:Tv→Prop):execF ⟨tys2,sG1⟩ (fun _=>none) 0 Tryz.f23 [.agg (ivL false v),.agg (ivL false u)] Q=((Dx.Sm 34359738368 v.lo∧Dx.Sm 34359738368 u.hi)∧br (leI (cmpD v.lo u.hi) 0) ((Dx.Sm 34359738368 u.lo∧Dx.Sm 34359738368 v.hi)∧Q (bT (leI (cmpD u.lo v.hi) 0))) (Q (bT false))):=by kernel_rfl
def soundF(v:Vx)(w:Int):Vx×Int:=if w=0∧rightV v=false then (zeroIv,6) else (v,w)
def lSo17:Spec:=specK [.v,.i .i64] fun (v:Vx) (w:Int)=>(none,reT (soundF v w))
theorem lSo17_vc(v:Vx)(w:Int)(Q:Tv→Prop):execF ⟨tys2,sG1⟩ (fun _=>none) 0 Tryz.f18 [.agg (ivL false v),.one (.int .i64 w)] Q=(br (eqI w 0) (br (!rightV v) (Q (Tv.tup [Sv.agg [At.bool false,At.words true [],At.int .i64 0,At.bool false,At.words true [],At.int .i64 0],Sv.one (At.int .i64 6)])) (Q (Tv.tup [Sv.agg (ivL false v),Sv.one (At.int .i64 w)]))) (Q (Tv.tup [Sv.agg (ivL false v),Sv.one (At.int .i64 w)]))):=by kernel_rfl
def wEn17(g:Int→Int→Int→Vx×Int):Spec:=specK [.i .u8,.i .u64,.i .i64] fun (f x p:Int)=>(some (Word x),reT (g f x p))
def wSo17(g:Vx→Int→Vx×Int):Spec:=specK [.v,.i .i64] fun (v:Vx) (w:Int)=>(none,reT (g v w))
def wTouch(g:Vx→Vx→Bool):Spec:=specK [.v,.v] fun (v:Vx) (u:Vx)=>(some (v.Sm 34359738368∧u.Sm 34359738368),bT (g v u))
theorem gTouch_ok:SpecOk Tryz.prog 23 gTouch :=
  specK_ok (envOk tys2_ok sG1_ok) mixed Tryz.func23 rfl (by decide) (by decide) fun (v:Vx) _ (u:Vx) _ hp=>⟨fun _=>none,0,by
    obtain ⟨s1,s2⟩:v.Sm 34359738368∧u.Sm 34359738368:=hp
    show execF _ _ _ _ _ (fun t=>t=bT (touchB v u))
    refine (gTouch_vc v u _).mpr ⟨⟨s1.1,s2.2⟩,br_intro (fun h=>⟨⟨s2.1,s1.2⟩,?_⟩) fun h=>?_⟩<;>rw [touchB,h]<;>rfl⟩
theorem lSo17_ok:SpecOk Tryz.prog 18 lSo17 :=
  specKW_ok (envOk tys2_ok sG1_ok) mixed Tryz.func18 rfl (by decide) (by decide) fun (v:Vx) _ (w:Int) _ _=>⟨fun _=>none,0,by
    show execF _ _ _ _ _ (fun t=>t=reT (soundF v w)∨fgT t=reT (soundF v w))
    refine (lSo17_vc v w _).mpr (br_intro (fun h=>br_intro (fun k=>.inr ?_) fun k=>.inl ?_) fun h=>.inl ?_)
    · rw [soundF,if_pos ⟨eqI_true.1 h,not_true k⟩];rfl
    · rw [soundF,if_neg (fun c=>by rw [not_false' k] at c;exact absurd c.2 (by decide))];rfl
    · rw [soundF,if_neg (fun c=>eqI_false.1 h c.1)];rfl⟩
theorem sound_ok{v:Vx}{w:Int}(h:(soundF v w).2=0):w=0∧rightV v=true∧(soundF v w).1=v:=by
  unfold soundF at h ⊢
  split at h
  · cases h
  · rename_i c
    rw [if_neg c]
    refine ⟨h,?_,rfl⟩
    cases e:rightV v with
    | true=>rfl
    | false=>exact absurd ⟨h,e⟩ c
theorem encTr_parts{f x p:Int}(h:(encTr f x p).2=0):isTr f=true∧8≤p∧p≤2048∧¬ fexp x=2047∧(quarR (fltD x) (p+32)).2.2=0:=by
  unfold encTr at h
  split at h
  · rename_i c
    split at h
    · cases h
    · rename_i e
      split at h
      · rename_i b
        refine ⟨c.1,c.2.1,c.2.2,e,?_⟩
        unfold bothTr at b
        split at b
        · assumption
        · exact b
      · rename_i b;exact absurd h b
  · cases h
theorem touch_of{v u:Vx}(h:v.lo.rv≤u.hi.rv∧u.lo.rv≤v.hi.rv):touchB v u=true:=by
  rw [touchB,leI_true.2 (cmpD_le.2 h.1),leI_true.2 (cmpD_le.2 h.2)];rfl
theorem QNum.ev{x:Dx}{p n:Int}{R:Vx}(h:QNum x p R n):EvB (rhS x.rv n) 2:=by
  obtain ⟨N,hN⟩:=h.enc 1 (by decide +kernel)
  have h1:=h.lo
  have h2:=h.hi
  exact ⟨N,fun n hn=>by have:=hN n hn;exact ⟨by grind,by grind⟩⟩
def sTw17(fE:Int→Int→Int→Vx×Int)(fS:Vx→Int→Vx×Int)(fr:Int→Dx×Int)(fW:Dx→Int→Dx)(fo:Dx→Int×Bool)(fT fL:Vx→Vx→Int→Vx)(fC:Vx→Int→Vx)(fP:Dx→Vx)(fI:Int→Dx)(fM:Vx→Vx→Bool):List (FuncId×Spec):=[(13,wTrue),(10,wEn17 fE),(18,wSo17 fS),(12,specK [.i .u64] fun (x:Int)=>(some (Word x),rdT (fr x))),(25,specK [.d,.i .i64] fun (d:Dx) (n:Int)=>(some (eB 2305843009213693952 d∧-2305843009213693952≤n∧n≤2305843009213693952),dT (fW d n))),(24,specK [.d] fun (d:Dx)=>(none,.tup [.one (.int .u64 (fo d).1),.one (.bool (fo d).2)])),(20,xVVIv fT),(27,specK [.v,.v,.i .i64] fun (v:Vx) (u:Vx) (p:Int)=>(some (v.Sm 134217728∧u.Sm 134217728∧0≤p∧p≤1099511627776),vT (fL v u p))),(26,specK [.v,.i .i64] fun (v:Vx) (n:Int)=>(some (eB 2305843009213693952 v.lo∧eB 2305843009213693952 v.hi∧-2305843009213693952≤n∧n≤2305843009213693952),vT (fC v n))),(28,specK [.d] fun (d:Dx)=>(some (eB 4611686018427387904 d),vT (fP d))),(22,specK [.i .i64] fun (n:Int)=>(some (inR n),dT (fI n))),(23,wTouch fM)]
theorem lTw17_vc(x p:Int)(fE:Int→Int→Int→Vx×Int)(fS:Vx→Int→Vx×Int)(fr:Int→Dx×Int)(fW:Dx→Int→Dx)(fo:Dx→Int×Bool)(fT fL:Vx→Vx→Int→Vx)(fC:Vx→Int→Vx)(fP:Dx→Vx)(fI:Int→Dx)(fM:Vx→Vx→Bool)(Q:Tv→Prop):execF ⟨tysR,sTw17 fE fS fr fW fo fT fL fC fP fI fM⟩ (fun _=>none) 0 Tryz.f5 [.one (.int .u64 x),.one (.int .i64 p)] Q=(Word x∧(eB 2305843009213693952 (fr x).fst∧(-2305843009213693952:Int)≤1∧(1:Int)≤2305843009213693952)∧Word x∧Word x∧br (neI (fS (fE 13 x p).fst (fE 13 x p).snd).snd 0) (Q (bT true)) (br (neI (fS (fE 14 x p).fst (fE 14 x p).snd).snd 0) (Q (bT true)) (br (!(fo (fW (fr x).fst 1)).snd) (Q (bT true)) (Word (fo (fW (fr x).fst 1)).fst∧Word (fo (fW (fr x).fst 1)).fst∧br (neI (fS (fE 13 (fo (fW (fr x).fst 1)).fst p).fst (fE 13 (fo (fW (fr x).fst 1)).fst p).snd).snd 0) (br (eqI (fS (fE 13 (fo (fW (fr x).fst 1)).fst p).fst (fE 13 (fo (fW (fr x).fst 1)).fst p).snd).snd 6) (Q (bT true)) (Q (bT (eqI (fS (fE 14 (fo (fW (fr x).fst 1)).fst p).fst (fE 14 (fo (fW (fr x).fst 1)).fst p).snd).snd 6)))) (br (neI (fS (fE 14 (fo (fW (fr x).fst 1)).fst p).fst (fE 14 (fo (fW (fr x).fst 1)).fst p).snd).snd 0) (br (eqI (fS (fE 13 (fo (fW (fr x).fst 1)).fst p).fst (fE 13 (fo (fW (fr x).fst 1)).fst p).snd).snd 6) (Q (bT true)) (Q (bT (eqI (fS (fE 14 (fo (fW (fr x).fst 1)).fst p).fst (fE 14 (fo (fW (fr x).fst 1)).fst p).snd).snd 6)))) ((Vx.Sm 268435456 (fS (fE 13 x p).fst (fE 13 x p).snd).fst∧Vx.Sm 268435456 (fS (fE 14 x p).fst (fE 14 x p).snd).fst∧(0:Int)≤9000∧(9000:Int)≤1099511627776)∧(eB 2305843009213693952 (fT (fS (fE 13 x p).fst (fE 13 x p).snd).fst (fS (fE 14 x p).fst (fE 14 x p).snd).fst 9000).lo∧eB 2305843009213693952 (fT (fS (fE 13 x p).fst (fE 13 x p).snd).fst (fS (fE 14 x p).fst (fE 14 x p).snd).fst 9000).hi∧(-2305843009213693952:Int)≤1∧(1:Int)≤2305843009213693952)∧inR 1∧eB 4611686018427387904 (fI 1)∧(Vx.Sm 268435456 (fS (fE 13 x p).fst (fE 13 x p).snd).fst∧Vx.Sm 268435456 (fS (fE 13 x p).fst (fE 13 x p).snd).fst∧(0:Int)≤9000∧(9000:Int)≤1099511627776)∧(eB 2305843009213693952 (fT (fS (fE 13 x p).fst (fE 13 x p).snd).fst (fS (fE 13 x p).fst (fE 13 x p).snd).fst 9000).lo∧eB 2305843009213693952 (fT (fS (fE 13 x p).fst (fE 13 x p).snd).fst (fS (fE 13 x p).fst (fE 13 x p).snd).fst 9000).hi∧(-2305843009213693952:Int)≤1∧(1:Int)≤2305843009213693952)∧(Vx.Sm 134217728 (fP (fI 1))∧Vx.Sm 134217728 (fC (fT (fS (fE 13 x p).fst (fE 13 x p).snd).fst (fS (fE 13 x p).fst (fE 13 x p).snd).fst 9000) 1)∧(0:Int)≤9000∧(9000:Int)≤1099511627776)∧true=true∧(Vx.Sm 34359738368 (fS (fE 13 (fo (fW (fr x).fst 1)).fst p).fst (fE 13 (fo (fW (fr x).fst 1)).fst p).snd).fst∧Vx.Sm 34359738368 (fC (fT (fS (fE 13 x p).fst (fE 13 x p).snd).fst (fS (fE 14 x p).fst (fE 14 x p).snd).fst 9000) 1))∧br (fM (fS (fE 13 (fo (fW (fr x).fst 1)).fst p).fst (fE 13 (fo (fW (fr x).fst 1)).fst p).snd).fst (fC (fT (fS (fE 13 x p).fst (fE 13 x p).snd).fst (fS (fE 14 x p).fst (fE 14 x p).snd).fst 9000) 1)) ((Vx.Sm 34359738368 (fS (fE 14 (fo (fW (fr x).fst 1)).fst p).fst (fE 14 (fo (fW (fr x).fst 1)).fst p).snd).fst∧Vx.Sm 34359738368 (fL (fP (fI 1)) (fC (fT (fS (fE 13 x p).fst (fE 13 x p).snd).fst (fS (fE 13 x p).fst (fE 13 x p).snd).fst 9000) 1) 9000))∧Q (bT (fM (fS (fE 14 (fo (fW (fr x).fst 1)).fst p).fst (fE 14 (fo (fW (fr x).fst 1)).fst p).snd).fst (fL (fP (fI 1)) (fC (fT (fS (fE 13 x p).fst (fE 13 x p).snd).fst (fS (fE 13 x p).fst (fE 13 x p).snd).fst 9000) 1) 9000)))) (Q (bT false)))))))):=by kernel_rfl
def sgS(a:Nat→Rat)(n:Int)(i:Nat):Rat:=sinQ a i*cu n+cosQ a i*su n
def kpS(a:Nat→Rat)(n:Int)(i:Nat):Rat:=cosQ a i*cu n-sinQ a i*su n
theorem right_moreS{a c:Nat→Rat}(ha:EvB a 2){j:Int}(hj:-1≤j∧j≤1)(e:∀ i,c i=a i+(j:Rat)*htS (1/2) i):Near (sinQ c) (sgS a j)∧Near (cosQ c) (kpS a j):=by
  obtain ⟨t1,t2⟩:=half_turn
  obtain ⟨R,hR⟩:=ha
  have bs:AbS (sinQ (cutS R a)) 32:=AbS.sin (cutS_ab (by decide +kernel) hR)
  have bc:AbS (cosQ (cutS R a)) 32:=AbS.cos (cutS_ab (by decide +kernel) hR)
  have qs:∀ n,R≤n→sinQ (cutS R a) n=sinQ a n:=fun n hn=>by unfold sinQ;rw [cutS_eq _ hn]
  have qc:∀ n,R≤n→cosQ (cutS R a) n=cosQ a n:=fun n hn=>by unfold cosQ;rw [cutS_eq _ hn]
  have es:Near (sinQ (cutS R a)) (sinQ a):=Near.of_eq R qs
  have ec:Near (cosQ (cutS R a)) (cosQ a):=Near.of_eq R qc
  have key:∀ (b:Nat→Rat) (u v:Rat),Ab u 1→Ab v 1→EvB b 2→Near (sinQ b) (fun _=>v)→Near (cosQ b) (fun _=>u)→Near (sinQ fun n=>a n+b n) (fun i=>sinQ a i*u+cosQ a i*v)∧Near (cosQ fun n=>a n+b n) (fun i=>cosQ a i*u-sinQ a i*v):=by
    intro b u v hu hv hb s c
    obtain ⟨a1,a2⟩:=addE ⟨R,hR⟩ hb
    have fu:AbS (fun _=>u) 1:=fun _=>hu
    have fv:AbS (fun _=>v) 1:=fun _=>hv
    have x1:Near (fun i=>cosQ a i*sinQ b i) (fun i=>cosQ a i*v):=(Near.of_eq R fun n hn=>by rw [←qc n hn];grind).trans ((s.mul ec bc fv).congr (fun _=>rfl) (fun n=>by grind))
    have x2:Near (fun i=>sinQ a i*cosQ b i) (fun i=>sinQ a i*u):=(Near.of_eq R fun n hn=>by rw [←qs n hn];grind).trans ((c.mul es bs fu).congr (fun _=>rfl) (fun n=>by grind))
    have x3:Near (fun i=>cosQ a i*cosQ b i) (fun i=>cosQ a i*u):=(Near.of_eq R fun n hn=>by rw [←qc n hn];grind).trans ((c.mul ec bc fu).congr (fun _=>rfl) (fun n=>by grind))
    have x4:Near (fun i=>sinQ a i*sinQ b i) (fun i=>sinQ a i*v):=(Near.of_eq R fun n hn=>by rw [←qs n hn];grind).trans ((s.mul es bs fv).congr (fun _=>rfl) (fun n=>by grind))
    exact ⟨a1.trans ((x1.add x2).congr (fun _=>rfl) (fun i=>by grind)),a2.trans ((x3.sub x4).congr (fun _=>rfl) (fun i=>rfl))⟩
  have a0:Ab (0:Rat) 1:=⟨by decide +kernel,by decide +kernel⟩
  have a1:Ab (1:Rat) 1:=⟨by decide +kernel,by decide +kernel⟩
  have am:Ab (-1:Rat) 1:=⟨by decide +kernel,by decide +kernel⟩
  unfold sgS kpS
  rcases (show j=0∨j=1∨j = -1 by omega) with rfl | rfl | rfl
  · have eq:c=a:=funext fun i=>by rw [e i];have:((0:Int):Rat)=0:=rfl;rw [this];grind
    rw [eq,show cu 0=1 by decide +kernel,show su 0=0 by decide +kernel]
    exact ⟨Near.of_eq 0 fun n _=>by grind,Near.of_eq 0 fun n _=>by grind⟩
  · have eq:c=fun n=>a n+htS (1/2) n:=funext fun n=>by
      have:((1:Int):Rat)=1:=rfl
      rw [e n,this];grind
    rw [eq,show cu 1=0 by decide +kernel,show su 1=1 by decide +kernel]
    exact key _ 0 1 a0 a1 (ht_ev (by decide +kernel) (by decide +kernel)) t1 t2
  · have eq:c=fun n=>a n + -htS (1/2) n:=funext fun n=>by
      have:((-1:Int):Rat) = -1:=rfl
      rw [e n,this];grind
    rw [eq,show cu (-1)=0 by decide +kernel,show su (-1) = -1 by decide +kernel]
    obtain ⟨M,hM⟩:=ht_ev (r:=1/2) (by decide +kernel) (by decide +kernel)
    exact key (fun n=>-htS (1/2) n) 0 (-1) a0 am ⟨M,fun n hn=>(hM n hn).neg⟩ (t1.neg.congr (fun n=>sinQ_neg _ n) (fun _=>rfl)) (t2.congr (fun n=>cosQ_neg _ n) (fun _=>rfl))
theorem sum_turnsS{a b c:Nat→Rat}{nx ny nz j:Int}(ha:EvB a 2)(hb:EvB b 2)(hab:EvB (fun i=>a i+b i) 2)(hj:-1≤j∧j≤1)(em:j+nz=nx+ny)(e:∀ i,c i=a i+b i+(j:Rat)*htS (1/2) i) :
    Near (sgS c nz) (fun i=>sgS a nx i*kpS b ny i+kpS a nx i*sgS b ny i)∧Near (kpS c nz) (fun i=>kpS a nx i*kpS b ny i-sgS a nx i*sgS b ny i):=by
  obtain ⟨s,k⟩:=right_moreS hab hj e
  obtain ⟨s',k'⟩:=addE ha hb
  obtain ⟨p1,p2⟩:=cu_add nx ny
  obtain ⟨q1,q2⟩:=cu_add j nz
  rw [em,p1] at q1
  rw [em,p2] at q2
  have A:=s.lin k (cu nz) (su nz)
  have B:=k.lin s (cu nz) (-su nz)
  have C:=s'.lin k' (cu nx*cu ny-su nx*su ny) (su nx*cu ny+cu nx*su ny)
  have D:=k'.lin s' (cu nx*cu ny-su nx*su ny) (-(su nx*cu ny+cu nx*su ny))
  constructor
  · refine Near.trans ?_ (Near.trans C ?_)
    · refine (A.congr (s':=sgS c nz) (fun i=>?_) (fun i=>?_))
      · unfold sgS;grind
      · rw [q1,q2];unfold sgS kpS;grind
    · exact Near.of_eq 0 fun i _=>by unfold sgS kpS;grind
  · refine Near.trans ?_ (Near.trans D ?_)
    · refine (B.congr (s':=kpS c nz) (fun i=>?_) (fun i=>?_))
      · unfold kpS;grind
      · rw [q1,q2];unfold sgS kpS;grind
    · exact Near.of_eq 0 fun i _=>by unfold sgS kpS;grind
theorem vals17{x p:Int}(h:(encTr 13 x p).2=0):∃ n,QNum (fltD x) (p+32) (quarR (fltD x) (p+32)).2.1 n∧Enc (sgS (rhS (fltD x).rv n) n) (encTr 13 x p).1.lo.rv (encTr 13 x p).1.hi.rv∧Enc (kpS (rhS (fltD x).rv n) n) (encTr 14 x p).1.lo.rv (encTr 14 x p).1.hi.rv∧(encTr 13 x p).1.P∧(encTr 14 x p).1.P:=by
  obtain ⟨_,p0,p1,e,hp⟩:=encTr_parts h
  obtain ⟨S,C,n,F⟩:=flt_pair (fltD_f x) (fltD_bd e) p0 (by omega) hp
  obtain ⟨e3,e4,_⟩:=encTr_0 e p0 p1 F hp
  obtain ⟨hs,hc⟩:=F.half
  obtain ⟨xs,xc⟩:=turn_half hs hc (n % 4)
  obtain ⟨c,d⟩:=enc_turned hs.p hc.p hs.e hc.e (n % 4)
  obtain ⟨u,v⟩:=turS_uv n (sinQ (rhS (fltD x).rv n)) (cosQ (rhS (fltD x).rv n))
  rw [u] at c
  rw [v] at d
  rw [e3,e4]
  exact ⟨n,F.qn,trim_enc xs.p (by omega) c,trim_enc xc.p (by omega) d,trimV_p _ _,trimV_p _ _⟩
theorem twice_seq{x y:Dx}{p p' n n':Int}{R R':Vx}(Q:QNum x p R n)(Q':QNum y p' R' n')(h:y.rv=2*x.rv) :
    Near (sgS (rhS y.rv n') n') (fun i=>sgS (rhS x.rv n) n i*kpS (rhS x.rv n) n i+kpS (rhS x.rv n) n i*sgS (rhS x.rv n) n i)∧Near (kpS (rhS y.rv n') n') (fun i=>kpS (rhS x.rv n) n i*kpS (rhS x.rv n) n i-sgS (rhS x.rv n) n i*sgS (rhS x.rv n) n i):=by
  obtain ⟨j,hj⟩:∃ j:Int,j=2*n-n':=⟨_,rfl⟩
  have two:((2:Int):Rat)=2:=rfl
  have jr:(j:Rat)=2*(n:Rat)-(n':Rat):=by rw [hj,Rat.intCast_sub,rcM,two]
  have e:∀ i,rhS y.rv n' i=rhS x.rv n i+rhS x.rv n i+(j:Rat)*htS (1/2) i:=fun i=>by
    unfold rhS htS
    rw [h,jr];grind
  obtain ⟨N,hN⟩:=Q.enc (1/100) (by decide +kernel)
  obtain ⟨M,hM⟩:=Q'.enc (1/100) (by decide +kernel)
  have hf:=halfP_hf (w:=8) (by decide) (by decide)
  obtain ⟨K,hK⟩:=hf.enc (1/100) (by decide +kernel)
  have l1:=Q.lo
  have l2:=Q.hi
  have l3:=Q'.lo
  have l4:=Q'.hi
  have l5:=hf.lo
  have ab:EvB (fun i=>rhS x.rv n i+rhS x.rv n i) 2:=⟨N,fun i hi=>by have:=hN i hi;exact ⟨by grind,by grind⟩⟩
  obtain ⟨i,i1,i2,i3⟩:∃ i,N≤i∧M≤i∧K≤i:=⟨N+M+K,by omega,by omega,by omega⟩
  obtain ⟨a1,a2⟩:=hN i i1
  obtain ⟨b1,b2⟩:=hM i i2
  obtain ⟨c1,_⟩:=hK i i3
  have ei:=e i
  have ht:htS (1/2) i=1/2*piS i:=rfl
  rw [ht] at ei
  generalize rhS x.rv n i=a at *
  generalize rhS y.rv n' i=c at *
  generalize piS i=q at *
  have q1:299/100≤q:=by grind
  have j1:j≤1:=by
    refine Classical.byContradiction fun k=>?_
    have t:((2:Int):Rat)≤(j:Rat):=Rat.intCast_le_intCast.2 (by omega)
    rw [two] at t
    have m:=rmR t (show 0≤1/2*q by grind)
    grind
  have j2:-1≤j:=by
    refine Classical.byContradiction fun k=>?_
    have t:(j:Rat)≤((-2:Int):Rat):=Rat.intCast_le_intCast.2 (by omega)
    rw [show ((-2:Int):Rat) = -2 from rfl] at t
    have m:=rmR t (show 0≤1/2*q by grind)
    grind
  exact sum_turnsS Q.ev Q.ev ab ⟨j2,j1⟩ (by omega) e
theorem gJo_vc(ng:Bool)(e f:Int)(Q:Tv→Prop):execF ⟨tyFd :: tysR,[]⟩ (fun _=>none) 0 Tryz.f65 [.agg [.bool ng,.int .i64 e,.int .u64 f]] Q=(br (ltI e 0) (Q (Tv.tup [Sv.one (At.int .u64 0),Sv.one (At.int .i64 2)])) (br (ltI 2047 e) (Q (Tv.tup [Sv.one (At.int .u64 0),Sv.one (At.int .i64 2)])) (br (leI 4503599627370496 f) (Q (Tv.tup [Sv.one (At.int .u64 0),Sv.one (At.int .i64 2)])) (br ng (Q (Tv.tup [Sv.one (At.int .u64 (IntKind.wrap IntKind.u64 (IntKind.wrap IntKind.u64 (IntKind.wrap IntKind.u64 (IntKind.wrap IntKind.u64 e*4503599627370496)+f)+9223372036854775808))),Sv.one (At.int .i64 0)])) (Q (Tv.tup [Sv.one (At.int .u64 (IntKind.wrap IntKind.u64 (IntKind.wrap IntKind.u64 (IntKind.wrap IntKind.u64 e*4503599627370496)+f))),Sv.one (At.int .i64 0)])))))):=by kernel_rfl
def wJo(fj:Bool→Int→Int→Int×Int):Spec:=fun l=>match l with
  | [.agg [.bool ng,.int .i64 e,.int .u64 f]]=>(none,.tup [.one (.int .u64 (fj ng e f).1),.one (.int .i64 (fj ng e f).2)])
  | _=>noSpec
def sTo(fR:Dx→Bool)(fO:Dx→Dx)(fL:List Int→Int)(fj:Bool→Int→Int→Int×Int):List (FuncId×Spec):=[(58,specK [.d] fun (d:Dx)=>(none,bT (fR d))),(63,specK [.d] fun (d:Dx)=>(some (eB 4611686018427387904 d),dT (fO d))),(64,specK [.w] fun (xs:List Int)=>(none,iT (fL xs))),(65,wJo fj)]
theorem fTo_vc(d:Dx)(fR:Dx→Bool)(fO:Dx→Dx)(fL:List Int→Int)(fj:Bool→Int→Int→Int×Int)(Q:Tv→Prop):execF ⟨tyFd :: tyUint :: tysR,sTo fR fO fL fj⟩ (fun _=>none) 0 Tryz.f24 [.agg (dyL false d)] Q=(br (!fR d) (Q (Tv.tup [Sv.one (At.int .u64 0),Sv.one (At.bool false)])) (eB 4611686018427387904 d∧br (eqI (↑(List.length (fO d).xs):Int) 0) (Q (Tv.tup [Sv.one (At.int .u64 0),Sv.one (At.bool true)])) (inR ((fO d).e+fL (fO d).xs)∧inR ((fO d).e+fL (fO d).xs-1)∧br (ltI 53 (fL (fO d).xs)) (Q (Tv.tup [Sv.one (At.int .u64 0),Sv.one (At.bool false)])) (br (ltI (fO d).e (-1074)) (Q (Tv.tup [Sv.one (At.int .u64 0),Sv.one (At.bool false)])) (br (ltI 1023 ((fO d).e+fL (fO d).xs-1)) (Q (Tv.tup [Sv.one (At.int .u64 0),Sv.one (At.bool false)])) (br (ltI ((fO d).e+fL (fO d).xs-1) (-1022)) (((0:Int)≤0∧(0:Int)<(↑(List.length (fO d).xs):Int))∧inR ((fO d).e+1074)∧(0:Int)≤IntKind.wrap IntKind.u64 ((fO d).e+1074)∧true=true∧Q (Tv.tup [Sv.one (At.int .u64 (fj (fO d).neg 0 (shlI IntKind.u64 (nth (fO d).xs 0) (IntKind.wrap IntKind.u64 ((fO d).e+1074)))).fst),Sv.one (At.bool true)])) (inR ((fO d).e+fL (fO d).xs-1+1023)∧((0:Int)≤0∧(0:Int)<(↑(List.length (fO d).xs):Int))∧inR ((53:Int)-fL (fO d).xs)∧(0:Int)≤IntKind.wrap IntKind.u64 ((53:Int)-fL (fO d).xs)∧Q (Tv.tup [Sv.one (At.int .u64 (fj (fO d).neg ((fO d).e+fL (fO d).xs-1+1023) (IntKind.wrap IntKind.u64 (shlI IntKind.u64 (nth (fO d).xs 0) (IntKind.wrap IntKind.u64 ((53:Int)-fL (fO d).xs))-4503599627370496))).fst),Sv.one (At.bool true)])))))))):=by kernel_rfl
def joinF(ng:Bool)(e f:Int):Int×Int :=
  if e<0 then (0,2) else if 2047<e then (0,2) else if 4503599627370496≤f then (0,2) else
  if ng=true then (IntKind.wrap IntKind.u64 (IntKind.wrap IntKind.u64 (IntKind.wrap IntKind.u64 (IntKind.wrap IntKind.u64 e*4503599627370496)+f)+9223372036854775808),0) else
  (IntKind.wrap IntKind.u64 (IntKind.wrap IntKind.u64 (IntKind.wrap IntKind.u64 e*4503599627370496)+f),0)
theorem tysJ_ok:RowsOk Tryz.prog (tyFd :: tysR):=⟨by kernel_rfl,tysR_ok⟩
theorem gJo_ok:SpecOk Tryz.prog 65 (wJo joinF) :=
  specOk_pat (envOk (S:=[]) tysJ_ok trivial) mixed Tryz.func65 rfl (by decide) 1 (by decide) fun l p t hwf e hp=>by
    unfold wJo at e
    split at e
    · rename_i ng ex f
      cases e
      refine ⟨Nat.le_refl _,fun _=>none,0,(gJo_vc ng ex f _).mpr (br_intro (fun h=>.inl ?_) fun h=>br_intro (fun h'=>.inl ?_) fun h'=>br_intro (fun k=>.inl ?_) fun k=>br_intro (fun g=>.inl ?_) fun g=>.inl ?_)⟩
      · rw [joinF,if_pos (ltI_true.1 h)]
      · rw [joinF,if_neg (ltI_false.1 h),if_pos (ltI_true.1 h')]
      · rw [joinF,if_neg (ltI_false.1 h),if_neg (ltI_false.1 h'),if_pos (leI_true.1 k)]
      · rw [joinF,if_neg (ltI_false.1 h),if_neg (ltI_false.1 h'),if_neg (leI_false.1 k),if_pos g]
      · rw [joinF,if_neg (ltI_false.1 h),if_neg (ltI_false.1 h'),if_neg (leI_false.1 k),if_neg (by rw [g];decide)]
    · cases e;exact (hp:False).elim
theorem joinF_eq{ng:Bool}{e f:Int}(e0:0≤e)(e1:e≤2047)(f0:0≤f)(f1:f<4503599627370496):(joinF ng e f).1=e*4503599627370496+f+(if ng=true then 9223372036854775808 else 0):=by
  have w:∀ z:Int,0≤z→z<18446744073709551616→IntKind.wrap IntKind.u64 z=z:=fun z a b=>by
    show z % 18446744073709551616=z
    omega
  rw [joinF,if_neg (by omega),if_neg (by omega),if_neg (by omega)]
  rw [w e e0 (by omega),w (e*4503599627370496) (by omega) (by omega),w (e*4503599627370496+f) (by omega) (by omega)]
  split
  · rw [w _ (by omega) (by omega)]
  · show e*4503599627370496+f=_;omega
def toR(d:Dx):Int×Bool :=
  if d.fitsB=true then
    if (((oneD d).xs.length:Nat):Int)=0 then (0,true)
    else if 53<(blen (val (oneD d).xs):Int) then (0,false)
    else if (oneD d).e < -1074 then (0,false)
    else if 1023<(oneD d).e+(blen (val (oneD d).xs):Int)-1 then (0,false)
    else if (oneD d).e+(blen (val (oneD d).xs):Int)-1 < -1022 then ((joinF (oneD d).neg 0 (shlI IntKind.u64 (nth (oneD d).xs 0) (IntKind.wrap IntKind.u64 ((oneD d).e+1074)))).1,true)
    else ((joinF (oneD d).neg ((oneD d).e+(blen (val (oneD d).xs):Int)-1+1023) (IntKind.wrap IntKind.u64 (shlI IntKind.u64 (nth (oneD d).xs 0) (IntKind.wrap IntKind.u64 (53-(blen (val (oneD d).xs):Int)))-4503599627370496))).1,true)
  else (0,false)
def toT(r:Int×Bool):Tv:=.tup [.one (.int .u64 r.1),.one (.bool r.2)]
def fTo:Spec:=specK [.d] fun (d:Dx)=>(none,toT (toR d))
theorem wrap_u0(z:Int):0≤IntKind.wrap IntKind.u64 z:=by
  show 0≤z % 18446744073709551616;omega
theorem tysTo_ok:RowsOk Tryz.prog (tyFd :: tyUint :: tysR):=⟨by kernel_rfl,by kernel_rfl,tysR_ok⟩
theorem sTo_ok:SpecsOk Tryz.prog (sTo (fun d=>d.fitsB) oneD (fun xs=>(blen (val xs):Int)) joinF):=⟨fRight_ok,fOne_ok,nLen_ok,gJo_ok,trivial⟩
theorem fTo_ok:SpecOk Tryz.prog 24 fTo :=
  specK_ok (envOk tysTo_ok sTo_ok) mixed Tryz.func24 rfl (by decide) (by decide) fun (d:Dx) hd _=>⟨fun _=>none,0,by
    show execF _ _ _ _ _ (fun t=>t=toT (toR d))
    have h0:0≤d.m:=WfW.val0 hd
    refine (fTo_vc d _ _ _ _ _).mpr (br_intro (fun h=>?_) fun h=>?_)
    · rw [toR,if_neg (by rw [show d.fitsB=false from not_true h];decide)];rfl
    · have h:d.fitsB=true:=not_false' h
      have s1:(oneD d).Sm 131072:=mkD_sm h0 (fits_sm h).1 (fits_sm h).2.1 (fits_sm h).2.2
      have b1:(blen (val (oneD d).xs):Int)≤131072:=by have:=s1.1;unfold Dx.m at this;omega
      have b2:=s1.2.1
      have b3:=s1.2.2
      refine ⟨(fits_sm h).eB (by omega),br_intro (fun k=>?_) fun k=>⟨⟨by omega,by omega⟩,⟨by omega,by omega⟩,br_intro (fun k2=>?_) fun k2=>br_intro (fun k3=>?_) fun k3=>br_intro (fun k4=>?_) fun k4=>br_intro (fun k5=>⟨⟨by omega,?_⟩,⟨by omega,by omega⟩,wrap_u0 _,rfl,?_⟩) fun k5=>⟨⟨by omega,by omega⟩,⟨by omega,?_⟩,⟨by omega,by omega⟩,wrap_u0 _,?_⟩⟩⟩
      · rw [toR,if_pos h,if_pos (eqI_true.1 k)];rfl
      · rw [toR,if_pos h,if_neg (eqI_false.1 k),if_pos (ltI_true.1 k2)];rfl
      · rw [toR,if_pos h,if_neg (eqI_false.1 k),if_neg (ltI_false.1 k2),if_pos (ltI_true.1 k3)];rfl
      · rw [toR,if_pos h,if_neg (eqI_false.1 k),if_neg (ltI_false.1 k2),if_neg (ltI_false.1 k3),if_pos (ltI_true.1 k4)];rfl
      · have:=eqI_false.1 k;omega
      · rw [toR,if_pos h,if_neg (eqI_false.1 k),if_neg (ltI_false.1 k2),if_neg (ltI_false.1 k3),if_neg (ltI_false.1 k4),if_pos (ltI_true.1 k5)];rfl
      · have:=eqI_false.1 k;omega
      · rw [toR,if_pos h,if_neg (eqI_false.1 k),if_neg (ltI_false.1 k2),if_neg (ltI_false.1 k3),if_neg (ltI_false.1 k4),if_neg (ltI_false.1 k5)];rfl⟩
theorem parts_of{ng:Bool}{e f x:Int}(e0:0≤e)(e1:e<2047)(f0:0≤f)(f1:f<4503599627370496)(hx:x=e*4503599627370496+f+(if ng=true then 9223372036854775808 else 0)):Word x∧fexp x=e∧ffr x=f∧fneg x=ng:=by
  unfold fexp ffr fneg
  cases ng
  · rw [if_neg (by decide)] at hx
    exact ⟨⟨by omega,by omega⟩,by omega,by omega,decide_eq_false (by omega)⟩
  · rw [if_pos rfl] at hx
    exact ⟨⟨by omega,by omega⟩,by omega,by omega,decide_eq_true (by omega)⟩
theorem ngm(ng:Bool)(a b:Int):(if ng then -(a*b) else a*b)=(if ng then -a else a)*b:=by cases ng<;>simp [Int.neg_mul]
theorem to_word{d:Dx}(h0:0≤d.m)(h:(toR d).2=true):Word (toR d).1∧fexp (toR d).1≠2047∧(fltD (toR d).1).rv=d.rv:=by
  revert h
  have hp:0≤(oneD d).m:=mkD_p
  have hx:(oneD d).xs=ws (oneD d).m:=mkD_ws h0
  have hv:val (oneD d).xs=(oneD d).m:=rfl
  rw [←rv_one h0]
  unfold toR
  rw [hv]
  generalize (oneD d)=c at hp hx
  split
  · split
    · rename_i k
      intro _
      have:c.m=0:=by
        by_cases q:0<c.m
        · have:=ws_len_pos q;rw [←hx] at this;omega
        · omega
      rw [rv_zero this]
      exact ⟨⟨by decide,by decide⟩,by decide,by rw [fltD,rv_mkD (by decide),show fltM 0=0 by decide];simp⟩
    · rename_i k
      have hc:0<c.m:=by
        by_cases q:0<c.m
        · exact q
        · rw [hx,ws_nonpos (by omega)] at k;exact absurd rfl k
      have b0:=blen_pos hc
      have l1:=blen_lt c.m
      have l2:=blen_ge hc
      split
      · intro h;exact absurd h (by decide)
      · rename_i k2
        have hB:c.m<9007199254740992:=Int.lt_of_lt_of_le l1 (two_pow_le (show blen c.m≤53 by omega))
        have hn:nth c.xs 0=c.m:=by
          rw [hx,ws_pos hc]
          show c.m % 18446744073709551616=c.m
          omega
        rw [hn]
        split
        · intro h;exact absurd h (by decide)
        · split
          · intro h;exact absurd h (by decide)
          · rename_i k3 k4
            split
            · rename_i k5
              intro _
              have w1:IntKind.wrap IntKind.u64 (c.e+1074)=c.e+1074:=wrap_small (by omega) (by omega)
              rw [w1]
              obtain ⟨n,hn⟩:∃ n:Nat,c.e+1074=n:=⟨(c.e+1074).toNat,by omega⟩
              have lt:c.m*2^n<4503599627370496:=by
                have:c.m*2^n<2^blen c.m*2^n:=Int.mul_lt_mul_of_pos_right l1 (two_pow_pos n)
                rw [←Int.pow_add] at this
                exact Int.lt_of_lt_of_le this (two_pow_le (show blen c.m+n≤52 by omega))
              have ge:0≤c.m*2^n:=Int.mul_nonneg hp (Int.le_of_lt (two_pow_pos n))
              have es:shlI IntKind.u64 c.m (c.e+1074)=c.m*2^n:=by
                unfold shlI
                rw [hn,Int.toNat_natCast,show min n IntKind.u64.bits=n from Nat.min_eq_left (by show n≤64;omega)]
                exact wrap_small ge (by omega)
              rw [es]
              obtain ⟨p1,p2',p3,p4⟩:=parts_of (ng:=c.neg) (e:=0) (f:=c.m*2^n) (by decide) (by decide) ge lt (joinF_eq (by decide) (by decide) ge lt)
              refine ⟨p1,by rw [p2'];decide,?_⟩
              rw [fltD,rv_mkD (by unfold fltM;rw [if_pos p2',p3];exact ge),p4]
              unfold fltM fltE
              rw [if_pos p2',if_pos p2',p3,ngm,rcM,←p2_nat,Rat.mul_assoc,←p2_add,show ((n:Int) + -1074)=c.e by omega]
              rfl
            · rename_i k5
              intro _
              obtain ⟨n,hn⟩:∃ n:Nat,53-(blen c.m:Int)=n:=⟨(53-(blen c.m:Int)).toNat,by omega⟩
              have w1:IntKind.wrap IntKind.u64 (53-(blen c.m:Int))=n:=by rw [hn];exact wrap_small (by omega) (by omega)
              rw [w1]
              have lt:c.m*2^n<9007199254740992:=by
                have:c.m*2^n<2^blen c.m*2^n:=Int.mul_lt_mul_of_pos_right l1 (two_pow_pos n)
                rw [←Int.pow_add,show blen c.m+n=53 by omega] at this
                exact this
              have ge:4503599627370496≤c.m*2^n:=by
                have:2^(blen c.m-1)*2^n≤c.m*2^n:=imR l2 (Int.le_of_lt (two_pow_pos n))
                rw [←Int.pow_add,show blen c.m-1+n=52 by omega] at this
                exact this
              have es:shlI IntKind.u64 c.m n=c.m*2^n:=by
                unfold shlI
                rw [Int.toNat_natCast,show min n IntKind.u64.bits=n from Nat.min_eq_left (by show n≤64;omega)]
                exact wrap_small (by omega) (by omega)
              rw [es,show IntKind.wrap IntKind.u64 (c.m*2^n-4503599627370496)=c.m*2^n-4503599627370496 from wrap_small (by omega) (by omega)]
              obtain ⟨p1,p2',p3,p4⟩:=parts_of (ng:=c.neg) (e:=c.e+(blen c.m:Int)-1+1023) (f:=c.m*2^n-4503599627370496) (by omega) (by omega) (by omega) (by omega) (joinF_eq (by omega) (by omega) (by omega) (by omega))
              refine ⟨p1,by rw [p2'];omega,?_⟩
              have z:¬ c.e+(blen c.m:Int)-1+1023=0:=by omega
              rw [fltD,rv_mkD (by unfold fltM;rw [p2',if_neg z,p3];omega),p4]
              unfold fltM fltE
              rw [p2',if_neg z,if_neg z,p3,Int.sub_add_cancel,ngm,rcM,←p2_nat,Rat.mul_assoc,←p2_add,show ((n:Int)+(c.e+(blen c.m:Int)-1+1023-1075))=c.e by omega]
              rfl
  · intro h;exact absurd h (by decide)
theorem enc_scale{s:Nat→Rat}{v:Vx}(hv:v.P)(h:Enc s v.lo.rv v.hi.rv):Enc (fun i=>2*s i) (scaleV v 1).lo.rv (scaleV v 1).hi.rv:=by
  have a:(scaleV v 1).lo.rv=2*v.lo.rv:=by show (shiftD v.lo 1).rv=_;rw [rv_shift hv.1,p2_one,Rat.mul_comm]
  have b:(scaleV v 1).hi.rv=2*v.hi.rv:=by show (shiftD v.hi 1).rv=_;rw [rv_shift hv.2,p2_one,Rat.mul_comm]
  rw [a,b]
  exact h.scale (by decide)
theorem sgkp_sq(a:Nat→Rat)(n:Int)(i:Nat):kpS a n i*kpS a n i+sgS a n i*sgS a n i=cosQ a i*cosQ a i+sinQ a i*sinQ a i:=by
  unfold kpS sgS
  rcases cu_val n with ⟨_,h,k⟩|⟨_,h,k⟩|⟨_,h,k⟩|⟨_,h,k⟩<;>rw [h,k]<;>grind
theorem touch_enc{s t:Nat→Rat}{v u:Vx}(h:Enc s v.lo.rv v.hi.rv)(k:Enc t u.lo.rv u.hi.rv)(e:Near s t):touchB v u=true :=
  touch_of ⟨(h.near e).meets k,k.meets (h.near e)⟩
theorem twice17{x y p:Int}(h:(encTr 13 x p).2=0)(k:(encTr 13 y p).2=0)(e:(fltD y).rv=2*(fltD x).rv) :
    touchB (encTr 13 y p).1 (scaleV (timesV (encTr 13 x p).1 (encTr 14 x p).1 9000) 1)=true∧touchB (encTr 14 y p).1 (lessV (pointV (mkS 1 0)) (scaleV (timesV (encTr 13 x p).1 (encTr 13 x p).1 9000) 1) 9000)=true:=by
  obtain ⟨n,Q,es,ec,Ps,Pc⟩:=vals17 h
  obtain ⟨n',Q',es',ec',_,_⟩:=vals17 k
  obtain ⟨ns,nc⟩:=twice_seq Q Q' e
  have es1:=enc_scale (trimV_p (prodV (encTr 13 x p).1 (encTr 14 x p).1) 9000) (enc_times Ps Pc (by decide) es ec)
  have es2:=enc_scale (trimV_p (prodV (encTr 13 x p).1 (encTr 13 x p).1) 9000) (enc_times Ps Ps (by decide) es es)
  have e1:Enc (fun _=>(1:Rat)) (pointV (mkS 1 0)).lo.rv (pointV (mkS 1 0)).hi.rv:=by
    obtain ⟨a,b⟩:=pointV_rv (x:=mkS 1 0) mkS_p
    have r1:(mkS 1 0).rv=1:=rv_int 1
    rw [a,b,r1]
    exact Enc.const 1
  have es3:=enc_less (w:=9000) (pointV_p (mkS 1 0)) ⟨shiftD_p,shiftD_p⟩ (by decide) e1 es2
  refine ⟨touch_enc es' es1 (ns.congr (fun _=>rfl) fun i=>by grind),touch_enc ec' es3 ?_⟩
  have c:=((circleE Q.ev).sub ((Near.refl (fun i=>sgS (rhS (fltD x).rv n) n i*sgS (rhS (fltD x).rv n) n i)).scale 2))
  refine nc.trans (c.congr (fun i=>?_) fun i=>rfl)
  have:=sgkp_sq (rhS (fltD x).rv n) n i
  grind
theorem codes_y{y p f:Int}(hf:f=13∨f=14)(e:¬ fexp y=2047)(p0:8≤p)(p1:p≤2048):(soundF (encTr f y p).1 (encTr f y p).2).2=0∨(soundF (encTr f y p).1 (encTr f y p).2).2=6:=by
  have a:(encTr f y p).2=0∨(encTr f y p).2=6:=by
    rcases (flt_codes (fltD_f y) (fltD_bd e) p0 p1).1 with h | ⟨h,_⟩
    · obtain ⟨S,C,n,F⟩:=flt_pair (fltD_f y) (fltD_bd e) p0 (by omega) h
      obtain ⟨e3,e4,_⟩:=encTr_0 e p0 p1 F h
      rcases hf with rfl | rfl
      · rw [e3];exact .inl rfl
      · rw [e4];exact .inl rfl
    · have b:(bothTr (fltD y) p).2=6:=by rw [bothTr,if_neg (by omega),h]
      have t:isTr f=true:=by rcases hf with rfl | rfl<;>rfl
      rw [encTr,if_pos ⟨t,p0,p1⟩,if_neg e,if_neg (by omega),b]
      exact .inr rfl
  unfold soundF
  split
  · exact .inr rfl
  · exact a
theorem sm_eBs{v:Vx}{N:Nat}(h:v.Sm N)(hN:(N:Int)≤2305843009213693952):eB 2305843009213693952 v.lo∧eB 2305843009213693952 v.hi:=⟨h.1.eB hN,h.2.eB hN⟩
theorem scale1_sm{v:Vx}{N:Nat}(hv:v.P)(h:v.Sm N):(scaleV v 1).Sm (N+(N+1)):=⟨shiftD_sm (M:=1) hv.1 h.1 (by omega) (by omega),shiftD_sm (M:=1) hv.2 h.2 (by omega) (by omega)⟩
theorem lessV_sm7{v u:Vx}{N:Nat}{p:Int}(hv:v.P)(hu:u.P)(sv:v.Sm N)(su:u.Sm N)(hp:0≤p):(lessV v u p).Sm (48*(N+N)+7):=plusV_sm hv (turnV_P u) (sv.mono (by omega)) (turnV_sm hu su) hp
theorem sTw17_ok:SpecsOk Tryz.prog (sTw17 encTr soundF fromR shiftD toR timesV lessV scaleV pointV (fun n=>mkS n 0) touchB):=⟨lLv17_ok,rEp_ok,lSo17_ok,fFrom_ok,fTwice_ok,fTo_ok,gTimes_ok,gLess_ok,gScale_ok,gPoint_ok,fInt_ok,gTouch_ok,trivial⟩
def lTw17:Spec:=specK [.i .u64,.i .i64] fun (x _:Int)=>(some (Word x),bT true)
theorem lTw17_ok:SpecOk Tryz.prog 5 lTw17 :=
  specK_ok (envOk tysR_ok sTw17_ok) mixed Tryz.func5 rfl (by decide) (by decide) fun (x:Int) _ (p:Int) _ hp=>⟨fun _=>none,0,by
    have hw:Word x:=hp
    show execF _ _ _ _ _ (fun t=>t=bT true)
    refine (lTw17_vc x p encTr soundF fromR shiftD toR timesV lessV scaleV pointV (fun n=>mkS n 0) touchB _).mpr ?_
    have eb:eB 2305843009213693952 (fromR x).1:=by
      unfold fromR
      split
      · exact ⟨by decide,by decide⟩
      · rename_i e
        have st:(fltD x).Sm 2098:=(fltD_bd e).sm (by omega)
        exact st.eB (by omega)
    refine ⟨hw,⟨eb,by omega,by omega⟩,hw,hw,br_intro (fun _=>rfl) fun h3=>br_intro (fun _=>rfl) fun h4=>br_intro (fun _=>rfl) fun ht=>?_⟩
    obtain ⟨c3,r3,v3⟩:=sound_ok (neI_false.1 h3)
    obtain ⟨c4,r4,v4⟩:=sound_ok (neI_false.1 h4)
    obtain ⟨_,p0,p1,e,_⟩:=encTr_parts c3
    have ef:(fromR x).1=fltD x:=by rw [fromR,if_neg e]
    rw [ef] at ht ⊢
    obtain ⟨wy,fy,ry⟩:=to_word (d:=shiftD (fltD x) 1) shiftD_p (not_false' ht)
    rw [rv_shift (fltD_p x),p2_one,Rat.mul_comm] at ry
    generalize (toR (shiftD (fltD x) 1)).1=y at *
    have k3:=codes_y (.inl rfl) fy p0 p1
    have k4:=codes_y (.inr rfl) fy p0 p1
    refine ⟨wy,wy,br_intro (fun q=>br_intro (fun _=>rfl) fun q'=>?_) fun q=>br_intro (fun q'=>br_intro (fun _=>rfl) fun _=>?_) fun q'=>?_⟩
    · exact absurd (k3.resolve_left (neI_true.1 q)) (eqI_false.1 q')
    · rw [eqI_true.2 (k4.resolve_left (neI_true.1 q'))]
    · obtain ⟨c3',r3',v3'⟩:=sound_ok (neI_false.1 q)
      obtain ⟨c4',r4',v4'⟩:=sound_ok (neI_false.1 q')
      obtain ⟨t1,t2⟩:=twice17 c3 c3' ry
      obtain ⟨_,_,_,_,P3,P4⟩:=vals17 c3
      have s3:=right_sm r3
      have s4:=right_sm r4
      have s3':=right_sm r3'
      have s4':=right_sm r4'
      have z1:(timesV (encTr 13 x p).1 (encTr 14 x p).1 9000).Sm 1572865:=timesV_sm (p:=9000) P3 P4 s3 s4 (by omega)
      have z2:(timesV (encTr 13 x p).1 (encTr 13 x p).1 9000).Sm 1572865:=timesV_sm (p:=9000) P3 P3 s3 s3 (by omega)
      have b1:=sm_eBs z1 (by omega)
      have b2:=sm_eBs z2 (by omega)
      have Z1:(timesV (encTr 13 x p).1 (encTr 14 x p).1 9000).P:=trimV_p (prodV (encTr 13 x p).1 (encTr 14 x p).1) 9000
      have Z2:(timesV (encTr 13 x p).1 (encTr 13 x p).1 9000).P:=trimV_p (prodV (encTr 13 x p).1 (encTr 13 x p).1) 9000
      have w1:(scaleV (timesV (encTr 13 x p).1 (encTr 14 x p).1 9000) 1).Sm 3145732:=(scale1_sm Z1 z1).mono (by omega)
      have w2:(scaleV (timesV (encTr 13 x p).1 (encTr 13 x p).1 9000) 1).Sm 3145732:=(scale1_sm Z2 z2).mono (by omega)
      have o1:(mkS 1 0).Sm 5:=mkS_sm6 (by omega)
      have w3:(pointV (mkS 1 0)).Sm 3145732:=(pointV_sm mkS_p o1).mono (by omega)
      have w4:=lessV_sm7 (p:=9000) (pointV_p (mkS 1 0)) (u:=scaleV (timesV (encTr 13 x p).1 (encTr 13 x p).1 9000) 1) ⟨shiftD_p,shiftD_p⟩ w3 w2 (by omega)
      rw [v3,v4,v3',v4',t1,t2]
      exact ⟨⟨s3.mono (by omega),s4.mono (by omega),by omega,by omega⟩,⟨b1.1,b1.2,by omega,by omega⟩,⟨by omega,by omega⟩,o1.eB (by omega),⟨s3.mono (by omega),s3.mono (by omega),by omega,by omega⟩,⟨b2.1,b2.2,by omega,by omega⟩,⟨w3.mono (by omega),w2.mono (by omega),by omega,by omega⟩,rfl,⟨s3'.mono (by omega),w1.mono (by omega)⟩,⟨s4'.mono (by omega),w4.mono (by omega)⟩,rfl⟩⟩
end Go.Proofs.YtenkjloaghmjfaaGreatDoor
namespace Go.Proofs.YtenkjloaghmjfaaGreatDoor
open Go.RowKit Go.ChangeShapes Go.WideShapes Go.Deep
set_option maxRecDepth 100000
def C0(W:World):Base:=⟨W.heap.size,fun _=>False,0⟩
section
variable {H:Type} {enc:TypeId×Value→H} {W:World} {base fuel:Nat} {s:Value} {x:DataW H×List MemPlace}
theorem open_words(hv:Cell.okWide Tryz.prog W .any base 25 s)(h:DataW.trod enc Tryz.prog W 0 (fun _=>true) true fuel 25 [s]=some x)
    (hw:(x.1.weights Tryz.prog 25).all (·≤reachBytes)=true) (hlt:∀ p∈x.2,p.block<W.heap.size):∃ xs,Rep (C0 W) noBox W s (.words false xs):=by
  rcases open_ints Tryz.underlying25 Tryz.underlying23 (by kernel_rfl) h with ⟨e,rfl⟩|⟨a,len,cap,zs,e,_,hl,hm,hz,rfl,hc,hwf⟩
  · cases e
    exact ⟨[],.words ⟨none,0,rfl,Nat.le_refl _,⟨by omega,by simp⟩,Words.nil,fun _=>rfl,fun h=>absurd h (by simp)⟩⟩
  · cases e
    rw [if_pos rfl] at hz
    obtain ⟨_,_,_,hspot,_⟩:len≤cap∧(cap:Int)≤IntKind.i64.max∧W.has Tryz.prog .any base a 23 cap:=by
      simpa [Cell.okWide,Cell.ok,Tryz.underlying25] using hv
    obtain ⟨g,o,spot⟩:=a
    simp only at hspot;subst hspot
    have hb8:Tryz.prog.bytesOf 23=8:=by kernel_rfl
    have hwt:(len+(cap-len))*8≤reachBytes:=by
      simp only [DataW.weights,Tryz.underlying25,List.all_cons,Bool.and_eq_true,decide_eq_true_eq,lits,List.length_map,List.length_take,List.length_drop,hz,hb8] at hw
      have:=hw.1
      rwa [Nat.min_eq_left hl] at this
    have hr:reachBytes=140737488351232:=rfl
    rw [hr] at hwt
    have hwords:Words zs:=fun n hn=>by
      have:=hwf n hn
      simp only [Lit.wf,Bool.and_eq_true,decide_eq_true_eq] at this
      have h1:IntKind.u64.min=0:=rfl
      have h2:IntKind.u64.max=18446744073709551615:=rfl
      rw [h1,h2] at this
      exact ⟨by omega,by omega⟩
    have hlen:(zs.take len).length=len:=by rw [List.length_take];omega
    refine ⟨zs.take len,.words ⟨_,cap,by rw [hlen],by omega,⟨by simp [maxLen] at hm;omega,by omega⟩,hwords.take _,by simp,fun hp=>⟨g,o,rfl,⟨⟨by simp [noBox],fun hx=>hx.elim⟩,by simp⟩,?_,fun j hj=>?_⟩⟩⟩
    · exact World.block_lt_of_cell? W _ (hc 0 (by omega))
    · have hj:j<len:=by omega
      have:=hc j (by omega)
      rw [nth_take hj]
      rw [show (⟨g,o,none⟩:Addr).add j=⟨g,o+j,none⟩ from by simp [Addr.add]] at this
      exact this
theorem open_dy{cs:List Value}(hok:∀ c,cs[1]?=some c→Cell.okWide Tryz.prog W .any base 25 c)(h:DataW.trod enc Tryz.prog W 0 (fun _=>true) true fuel 27 cs=some x)
    (hw:(x.1.weights Tryz.prog 27).all (·≤reachBytes)=true) (hlt:∀ p∈x.2,p.block<W.heap.size):∃ d:Dx,RepL (C0 W) noBox W cs (dyL false d):=by
  obtain ⟨y0,y1,y2,n,rfl,hl,h0,h1,h2⟩:=trod_struct3 Tryz.underlying27 h
  rw [show Tryz.prog.cellsOf 27=3 by kernel_rfl] at hl
  match cs,hl with
  | [c0,c1,c2],_ =>
    obtain ⟨b,e0,rfl⟩:=DataW.trod_bool Tryz.underlying4 h0
    obtain ⟨k,e2,rfl,hk⟩:=DataW.trod_int Tryz.underlying3 h2
    rw [show Tryz.prog.cellsOf 4=1 by kernel_rfl] at e0
    rw [show Tryz.prog.cellsOf 3=1 by kernel_rfl] at e2
    simp at e0 e2
    subst e0;subst e2
    simp only [show Tryz.prog.cellsOf 25=1 by kernel_rfl] at h1
    simp only [DataW.weights,Tryz.underlying27,DataW.weightsEach,List.map_cons,List.map_nil,List.all_append,Bool.and_eq_true] at hw
    obtain ⟨xs,hxs⟩:=open_words (hok c1 rfl) (by simpa using h1) hw.2.1 (fun p hp=>hlt p (by simp [hp]))
    exact ⟨⟨b,xs,k⟩,Rep.bool b,hxs,Rep.int _ k,trivial⟩
theorem arg_d{v:Value}{d:DataW H}{ps:List MemPlace}(hv:Value.okWide Tryz.prog W .any base 27 v)(h:DataW.Trod enc Tryz.prog W 0 (fun _=>true) true 27 v d ps)
    (hw:(d.weights Tryz.prog 27).all (·≤reachBytes)=true) (hlt:∀ p∈ps,p.block<W.heap.size):∃ x:Dx,RepS (C0 W) noBox W v (.agg (dyL false x)):=by
  simp only [Value.okWide,Tryz.underlying27] at hv
  obtain ⟨cs,rfl,hsz,ts,hts,_,hrow⟩:=hv
  rw [show Tryz.prog.cellTypes Tryz.prog.depth 27=some [4,25,3] by kernel_rfl] at hts
  cases hts
  obtain ⟨fuel,h⟩:=h
  obtain ⟨x,hx⟩:=open_dy (x:=(d,ps)) (base:=base) (fun c hc=>by
    obtain ⟨u,hu,hok⟩:=hrow 1 c (by rw [←Array.getElem?_toList];exact hc)
    cases hu;exact hok) h hw hlt
  exact ⟨x,cs.toList,rfl,hx⟩
theorem arg_v{v:Value}{d:DataW H}{ps:List MemPlace}(hv:Value.okWide Tryz.prog W .any base 29 v)(h:DataW.Trod enc Tryz.prog W 0 (fun _=>true) true 29 v d ps)
    (hw:(d.weights Tryz.prog 29).all (·≤reachBytes)=true) (hlt:∀ p∈ps,p.block<W.heap.size):∃ x:Vx,RepS (C0 W) noBox W v (.agg (ivL false x)):=by
  simp only [Value.okWide,Tryz.underlying29] at hv
  obtain ⟨cs,rfl,hsz,ts,hts,_,hrow⟩:=hv
  rw [show Tryz.prog.cellTypes Tryz.prog.depth 29=some [4,25,3,4,25,3] by kernel_rfl] at hts
  cases hts
  rw [show Tryz.prog.cellsOf 29=6 by kernel_rfl] at hsz
  obtain ⟨fuel,h⟩:=h
  obtain ⟨cs⟩:=cs
  match cs,hsz with
  | [c0,c1,c2,c3,c4,c5],_ =>
    obtain ⟨y0,y1,n,e,_,h0,h1⟩:=trod_struct2 Tryz.underlying29 h
    cases e
    simp only [show Tryz.prog.cellsOf 27=3 by kernel_rfl] at h0 h1
    simp only [DataW.weights,Tryz.underlying29,DataW.weightsEach,List.map_cons,List.map_nil,List.all_append,Bool.and_eq_true] at hw
    obtain ⟨x,hx⟩:=open_dy (cs:=[c0,c1,c2]) (base:=base) (fun c hc=>by
      obtain ⟨u,hu,hok⟩:=hrow 1 c hc
      cases hu;exact hok) h0 hw.1 (fun p hp=>hlt p (by simp [hp]))
    obtain ⟨y,hy⟩:=open_dy (cs:=[c3,c4,c5]) (base:=base) (fun c hc=>by
      obtain ⟨u,hu,hok⟩:=hrow 4 c hc
      cases hu;exact hok) h1 hw.2.1 (fun p hp=>hlt p (by simp [hp]))
    obtain ⟨a1,a2,a3,_⟩:=hx
    obtain ⟨b1,b2,b3,_⟩:=hy
    exact ⟨⟨x,y⟩,[c0,c1,c2,c3,c4,c5],rfl,a1,a2,a3,b1,b2,b3,trivial⟩
def Kd:Ak→TypeId→Prop
  | .b,t=>t=4
  | .i q,t=>Tryz.prog.underlying t=some (.int q)
  | .w,_=>False
  | .fx,_=>False
  | .p,_=>False
  | .d,t=>t=27
  | .v,t=>t=29
def Kds:List Ak→List TypeId→Prop
  | [],[]=>True
  | k :: ks,t :: ts=>Kd k t∧Kds ks ts
  | _,_=>False
def okArg:(k:Ak)→k.T→Prop
  | .i q,n=>q.min≤n∧n≤q.max
  | _,_=>True
theorem arg_k{k:Ak}{t:TypeId}(hk:Kd k t){v:Value}{d:DataW H}{ps:List MemPlace}(hv:Value.okWide Tryz.prog W .any base t v)(h:DataW.Trod enc Tryz.prog W 0 (fun _=>true) true t v d ps)
    (hw:(d.weights Tryz.prog t).all (·≤reachBytes)=true) (hlt:∀ p∈ps,p.block<W.heap.size):∃ x:k.T,RepS (C0 W) noBox W v (k.enc x)∧okArg k x:=by
  cases k with
  | b =>
    obtain rfl:t=4:=hk
    obtain ⟨b,rfl⟩:=okWide_bool Tryz.underlying4 hv
    exact ⟨b,Rep.bool b,trivial⟩
  | i q =>
    obtain ⟨n,rfl⟩:=okWide_int hk hv
    refine ⟨n,Rep.int q n,(show q.min≤n∧n≤q.max from ?_)⟩
    have hk:Tryz.prog.underlying t=some (.int q):=hk
    simpa [Value.okWide,Cell.okWide,Cell.ok,hk,IntKind.has] using hv
  | w=>exact hk.elim
  | fx=>exact hk.elim
  | p=>exact hk.elim
  | d =>
    obtain rfl:t=27:=hk
    obtain ⟨x,hx⟩:=arg_d hv h hw hlt;exact ⟨x,hx,trivial⟩
  | v =>
    obtain rfl:t=29:=hk
    obtain ⟨x,hx⟩:=arg_v hv h hw hlt;exact ⟨x,hx,trivial⟩
theorem dec_enc(k:Ak)(x:k.T):k.dec (k.enc x)=some x:=by
  cases k with
  | i q=>cases q<;>rfl
  | _=>rfl
def AllTrue:(ks:List Ak)→AFun ks→Prop
  | [],g=>(match g.1 with | none=>True | some p=>p)∧g.2 = .sv (.one (.bool true))
  | k :: ks,g=>∀ x:k.T,okArg k x→AllTrue ks (g x)
theorem args_ok:∀ {ks:List Ak} {ts:List TypeId} {vs:List Value} {ds:List (DataW H)} {ps:List MemPlace},Kds ks ts→(∀ (j:Nat) t v,ts[j]?=some t→vs[j]?=some v→Value.okWide Tryz.prog W .any base t v) →
    DataW.TrodAll enc Tryz.prog W 0 (fun _=>true) true ts vs ds ps→(DataW.weightsEach Tryz.prog ts ds).all (·≤reachBytes)=true→(∀ p∈ps,p.block<W.heap.size) →
    ∃ l,RepSs (C0 W) noBox W vs l∧∀ g,AllTrue ks g→(match (specK ks g l).1 with | none=>True | some p=>p)∧(specK ks g l).2 = .sv (.one (.bool true))
  | [],[],vs,ds,ps,_,_,h,_,_=>by
    obtain ⟨rfl,rfl,rfl⟩:=trodAll_nil h
    exact ⟨[],trivial,fun g hg=>hg⟩
  | [],_ :: _,_,_,_,hk,_,_,_,_=>hk.elim
  | _ :: _,[],_,_,_,hk,_,_,_,_=>hk.elim
  | k :: ks,t :: ts,vs,ds,ps,hk,hv,h,hw,hlt=>by
    obtain ⟨v,vs1,d,ds1,a,b,rfl,rfl,rfl,h1,h2⟩:=trodAll_cons h
    simp only [DataW.weightsEach,List.all_append,Bool.and_eq_true] at hw
    obtain ⟨x,hx,hox⟩:=arg_k hk.1 (hv 0 t v rfl rfl) h1 hw.1 (fun p hp=>hlt p (by simp [hp]))
    obtain ⟨l,hl,hs⟩:=args_ok hk.2 (fun j t v ht hv'=>hv (j+1) t v ht hv') h2 hw.2 (fun p hp=>hlt p (by simp [hp]))
    refine ⟨k.enc x :: l,⟨hx,hl⟩,fun g hg=>?_⟩
    have e:specK (k :: ks) g (k.enc x :: l)=(match k.dec (k.enc x) with | some x=>specK ks (g x) l | none=>noSpec):=rfl
    rw [e,dec_enc]
    exact hs (g x) (hg x hox)
theorem law_calls{f:FuncId}{ks:List Ak}{g:AFun ks}(hs:SpecOk Tryz.prog f (specK ks g))(hg:AllTrue ks g){ts:List TypeId}{args:Array Value}{ds:List (DataW H)}{ps:List MemPlace}(hT:Tab W)(hk:Kds ks ts)
    (hv:∀ (j:Nat) t v,ts[j]?=some t→args.toList[j]?=some v→Value.okWide Tryz.prog W .any base t v) (h:DataW.TrodAll enc Tryz.prog W 0 (fun _=>true) true ts args.toList ds ps)
    (hw:(DataW.weightsEach Tryz.prog ts ds).all (·≤reachBytes)=true) (hlt:∀ p∈ps,p.block<W.heap.size) :
    Calls Tryz.prog f args W fun e W'=>e = .returned (.bool true)∧Below W.heap.size W W':=by
  obtain ⟨l,hl,hsp⟩:=args_ok hk hv h hw hlt
  have:=hs.2 (C0 W) W args.toList l rfl (fun g hg=>hg.elim) hT hl (hsp g hg).1
  rw [(hsp g hg).2] at this
  refine this.mono ?_
  rintro e w' ⟨v,rfl,hr,hb⟩
  obtain rfl:=rep_bool (A:=noBox) hr
  exact ⟨rfl,hb⟩
theorem trodAll_below{W':World}(hb:Below W.heap.size W W')(hl:laidOutB Tryz.prog=true):∀ {ts:List TypeId} {vs:List Value} {ds:List (DataW H)} {ps:List MemPlace},(∀ t∈ts,Tryz.prog.readableRec t=true∧t<Tryz.prog.types.size) →
    DataW.TrodAll enc Tryz.prog W 0 (fun _=>true) true ts vs ds ps→(∀ p∈ps,p.block<W.heap.size)→DataW.TrodAll enc Tryz.prog W' 0 (fun b=>decide (b<W.heap.size)) true ts vs ds ps
  | [],vs,ds,ps,_,h,_=>by
    obtain ⟨rfl,rfl,rfl⟩:=trodAll_nil h
    exact trodAll_mk0
  | t :: ts,vs,ds,ps,ht,h,hlt=>by
    obtain ⟨v,vs1,d,ds1,a,b,rfl,rfl,rfl,h1,h2⟩:=trodAll_cons h
    exact ⟨a,b,Below.trod hl (ht t (by simp)).1 (ht t (by simp)).2 h1 hb (fun p hp=>hlt p (by simp [hp])),trodAll_below hb hl (fun t h=>ht t (by simp [h])) h2 (fun p hp=>hlt p (by simp [hp])),rfl⟩
theorem law_post{fn:Func}{s:ChangeSpec}(hl:laidOutB Tryz.prog=true)(hres:fn.resultTypes = #[4])(hvars:s.vars = [])(ht:∀ t∈fn.params.toList,Tryz.prog.readableRec t=true∧t<Tryz.prog.types.size)
    {args:Array Value} {ds gs:List (DataW H)} {before:List MemPlace} (hspec:s.fn H (ds ++ gs) = { results:=[.lit (.bool true)],args:=ds })
    (hW:DataW.Whole enc Tryz.prog fn.params.toList s.vars false W args.toList ds gs before) {W':World} (hb:Below W.heap.size W W') :
    s.post enc Tryz.prog fn false true false false W args (.bool true) W':=by
  have hlt:=hW.lt
  have hW':=hW
  obtain ⟨p,q,hA,hV,rfl,hfz,hnd⟩:=hW
  rw [hvars] at hV
  obtain ⟨rfl,rfl⟩:=trodVars_none hV
  refine ⟨ds,[],_,[],p,[],hW',?_,?_,?_,hb.frame _,fun h=>by cases h⟩
  · rw [hspec,hres]
    exact trodAll_mk1 (shut_bool Tryz.underlying4 _)
  · rw [hspec]
    exact trodAll_below hb hl ht hA (fun x hx=>hlt x (by simp [hx]))
  · rw [hspec,hvars];rfl
end
theorem law_contract{H:Type}{enc:TypeId×Value→H}{f:FuncId}{fn:Func}{ks:List Ak}{g:AFun ks}{s:ChangeSpec}(hs:SpecOk Tryz.prog f (specK ks g))(hg:AllTrue ks g)(hl:laidOutB Tryz.prog=true)(hres:fn.resultTypes = #[4])(hvars:s.vars = [])
    (hvt:s.plain.varTypes Tryz.prog = []) (ht:∀ t∈fn.params.toList,Tryz.prog.readableRec t=true∧t<Tryz.prog.types.size) (hk:Kds ks fn.params.toList) (hspec:∀ ds:List (DataW H),ds.length=fn.params.toList.length→s.fn H ds = { results:=[.lit (.bool true)],args:=ds })
    {W:World} {base:Nat} {args:Array Value} {ds gs:List (DataW H)} {before:List MemPlace} (hval:∀ (j:Nat) t v,fn.params[j]?=some t→args[j]?=some v→Value.okWide Tryz.prog W .any base t v)
    (hW:DataW.Whole enc Tryz.prog fn.params.toList s.vars false W args.toList ds gs before) (hw:(DataW.weightsEach Tryz.prog (fn.params.toList ++ s.plain.varTypes Tryz.prog) (ds ++ gs)).all (·≤reachBytes)=true) (hT:Tab W) :
    Calls Tryz.prog f args W fun e W'=>∃ v,e = .returned v∧s.post enc Tryz.prog fn false true false false W args v W':=by
  have hlt:=hW.lt
  have hW':=hW
  obtain ⟨p,q,hA,hV,rfl,hfz,hnd⟩:=hW
  rw [hvars] at hV
  obtain ⟨rfl,rfl⟩:=trodVars_none hV
  rw [hvt,List.append_nil,List.append_nil] at hw
  refine (law_calls hs hg hT hk (fun j t v h1 h2=>hval j t v (by rw [←Array.getElem?_toList];exact h1) (by rw [←Array.getElem?_toList];exact h2)) hA hw (fun x hx=>hlt x (by simp [hx]))).mono ?_
  rintro e W' ⟨rfl,hb⟩
  exact ⟨_,rfl,law_post hl hres hvars ht (by rw [List.append_nil];exact hspec ds (trodAll_length hA).2) hW' hb⟩
theorem tabA_of{W:World}{D:DataW Unit}(hD:∀ ys:List (DataW Unit×List MemPlace),D = .agg (ys.map (·.1))→∀ j,j<64→∃ y,ys[j]?=some y∧y.1 = .lit (.int .u8 (Lib.deBruijn64tab.getD j 0)))
    {g0 : Nat} {t0 : TypeId} {cs0 : Array Value} {f0 : Nat} {p0 : List MemPlace} (hg0 : Tryz.prog.globalNamed "math/bits.deBruijn64tab" = some g0) (ht0 : (Tryz.prog.globals[g0]?).map (·.type) = some t0) (hv0 : W.var? Tryz.prog "math/bits.deBruijn64tab" = some cs0)
    (hd0:DataW.trod (fun _=>()) Tryz.prog W 0 (fun _=>true) false f0 t0 cs0.toList=some (D,p0)):TabA W:=by
  obtain rfl := Option.some.inj ((show Tryz.prog.globalNamed "math/bits.deBruijn64tab" = some 1 by kernel_rfl).symm.trans hg0)
  obtain rfl:=Option.some.inj ((show (Tryz.prog.globals[1]?).map (·.type)=some 156 by kernel_rfl).symm.trans ht0)
  obtain ⟨xs,m1,_,hx1,hlen,hn3,hel⟩:=DataW.trod_array Tryz.underlying156 hd0
  intro j hj
  simp only [Prod.mk.injEq] at hx1
  obtain ⟨y,hy,hy1⟩:=hD xs hx1.1 j hj
  have hj':=hel j hj
  rw [hy,show Tryz.prog.cellsOf 5=1 by kernel_rfl] at hj'
  obtain ⟨k,e1,e2,_⟩:=DataW.trod_int Tryz.underlying5 hj'
  have hk:k=Lib.deBruijn64tab.getD j 0:=by
    rw [e2] at hy1;simpa using hy1
  subst hk
  have:=World.var?_cell hg0 hv0 j
  rw [this]
  rw [Nat.mul_one] at e1
  have e3:(cs0.toList.drop j)[0]?=some (.int .u8 (Lib.deBruijn64tab.getD j 0)):=by
    have:((cs0.toList.drop j).take 1)[0]?=some (.int .u8 (Lib.deBruijn64tab.getD j 0)):=by rw [e1];rfl
    rwa [List.getElem?_take,if_pos (by omega)] at this
  rw [List.getElem?_drop,Nat.add_zero] at e3
  simpa using e3
theorem turn_cells{W:World}{f0:Nat}{cs:List Value}{x:DataW Unit×List MemPlace}(h:DataW.trod (fun _=>()) Tryz.prog W 0 (fun _=>true) false f0 93 cs=some x){a b:Int}{c d:Bool}
    (e:x.1 = .agg [.lit (.int .i64 a),.lit (.int .i64 b),.lit (.bool c),.lit (.bool d)]):cs = [.int .i64 a,.int .i64 b,.bool c,.bool d]:=by
  obtain ⟨xs,n,_,rfl,hl,hlen,hf⟩:=DataW.trod_struct Tryz.underlying93 h
  rw [show Tryz.prog.cellsOf 93=4 by kernel_rfl] at hl
  match cs,hl,xs,hlen,hf with
  | [c0,c1,c2,c3],_,[y0,y1,y2,y3],_,hf =>
    have h0:DataW.trod (fun _=>()) Tryz.prog W 0 (fun _=>true) false n 3 (([c0,c1,c2,c3].drop 0).take (Tryz.prog.cellsOf 3))=some y0:=hf 0 _ rfl
    have h1:DataW.trod (fun _=>()) Tryz.prog W 0 (fun _=>true) false n 3 (([c0,c1,c2,c3].drop 1).take (Tryz.prog.cellsOf 3))=some y1:=hf 1 _ rfl
    have h2:DataW.trod (fun _=>()) Tryz.prog W 0 (fun _=>true) false n 4 (([c0,c1,c2,c3].drop 2).take (Tryz.prog.cellsOf 4))=some y2:=hf 2 _ rfl
    have h3:DataW.trod (fun _=>()) Tryz.prog W 0 (fun _=>true) false n 4 (([c0,c1,c2,c3].drop 3).take (Tryz.prog.cellsOf 4))=some y3:=hf 3 _ rfl
    obtain ⟨k0,e0,r0,_⟩:=DataW.trod_int Tryz.underlying3 h0
    obtain ⟨k1,e1,r1,_⟩:=DataW.trod_int Tryz.underlying3 h1
    obtain ⟨k2,e2,r2⟩:=DataW.trod_bool Tryz.underlying4 h2
    obtain ⟨k3,e3,r3⟩:=DataW.trod_bool Tryz.underlying4 h3
    rw [show Tryz.prog.cellsOf 3=1 by kernel_rfl] at e0 e1
    rw [show Tryz.prog.cellsOf 4=1 by kernel_rfl] at e2 e3
    simp at e0 e1 e2 e3
    subst e0;subst e1;subst e2;subst e3;subst r0;subst r1;subst r2;subst r3
    simp at e
    obtain ⟨rfl,rfl,rfl,rfl⟩:=e
    rfl
theorem tabT_of{W:World}{D:DataW Unit}(hD:D = .agg [.agg [.lit (.int .i64 0),.lit (.int .i64 1),.lit (.bool false),.lit (.bool false)],.agg [.lit (.int .i64 1),.lit (.int .i64 0),.lit (.bool false),.lit (.bool true)],.agg [.lit (.int .i64 0),.lit (.int .i64 1),.lit (.bool true),.lit (.bool true)],.agg [.lit (.int .i64 1),.lit (.int .i64 0),.lit (.bool true),.lit (.bool false)]])
    {g0 : Nat} {t0 : TypeId} {cs0 : Array Value} {f0 : Nat} {p0 : List MemPlace} (hg0 : Tryz.prog.globalNamed "ulp/trig.turns" = some g0) (ht0 : (Tryz.prog.globals[g0]?).map (·.type) = some t0) (hv0 : W.var? Tryz.prog "ulp/trig.turns" = some cs0)
    (hd0:DataW.trod (fun _=>()) Tryz.prog W 0 (fun _=>true) false f0 t0 cs0.toList=some (D,p0)):TabT W:=by
  subst hD
  obtain rfl := Option.some.inj ((show Tryz.prog.globalNamed "ulp/trig.turns" = some 0 by kernel_rfl).symm.trans hg0)
  obtain rfl:=Option.some.inj ((show (Tryz.prog.globals[0]?).map (·.type)=some 94 by kernel_rfl).symm.trans ht0)
  obtain ⟨xs,m1,_,hx1,hlen,hn3,hel⟩:=DataW.trod_array Tryz.underlying94 hd0
  rw [show Tryz.prog.cellsOf 94=16 by kernel_rfl] at hlen
  simp only [Prod.mk.injEq] at hx1
  have hx:=hx1.1
  have e16:cs0.toList=turnsL:=by
    generalize hl:cs0.toList=l at hlen hel
    match xs,hn3,hx,hel with
    | [y0,y1,y2,y3],_,hx,hel =>
      simp only [List.map_cons,List.map_nil,DataW.agg.injEq,List.cons.injEq] at hx
      have h0:=hel 0 (by omega)
      have h1:=hel 1 (by omega)
      have h2:=hel 2 (by omega)
      have h3:=hel 3 (by omega)
      rw [show Tryz.prog.cellsOf 93=4 by kernel_rfl] at h0 h1 h2 h3
      have k0:=turn_cells h0 hx.1.symm
      have k1:=turn_cells h1 hx.2.1.symm
      have k2:=turn_cells h2 hx.2.2.1.symm
      have k3:=turn_cells h3 hx.2.2.2.1.symm
      have e:l=(l.drop (0*4)).take 4 ++ ((l.drop (1*4)).take 4 ++ ((l.drop (2*4)).take 4 ++ (l.drop (3*4)).take 4)):=by
        match l,hlen with
        | [_,_,_,_,_,_,_,_,_,_,_,_,_,_,_,_],_=>rfl
      rw [e,k0,k1,k2,k3]
      rfl
  intro i v e
  rw [World.var?_cell hg0 hv0 i,←Array.getElem?_toList,e16]
  exact e
theorem tab_of{W:World}{D D2:DataW Unit}(hD:∀ ys:List (DataW Unit×List MemPlace),D = .agg (ys.map (·.1))→∀ j,j<64→∃ y,ys[j]?=some y∧y.1 = .lit (.int .u8 (Lib.deBruijn64tab.getD j 0)))
    (hD2:D2 = .agg [.agg [.lit (.int .i64 0),.lit (.int .i64 1),.lit (.bool false),.lit (.bool false)],.agg [.lit (.int .i64 1),.lit (.int .i64 0),.lit (.bool false),.lit (.bool true)],.agg [.lit (.int .i64 0),.lit (.int .i64 1),.lit (.bool true),.lit (.bool true)],.agg [.lit (.int .i64 1),.lit (.int .i64 0),.lit (.bool true),.lit (.bool false)]])
    (hh : D.handleName?.isNone = true) (h : laidMetH Tryz.prog [("math/bits.deBruijn64tab", D), ("ulp/trig.turns", D2)] W) : Tab W := by
  rw [MakeChecks.laidMetH_plain _ _ _ (by subst hD2;show (D.handleName?.isNone && _)=true;rw [hh];rfl)] at h
  obtain ⟨ps,⟨g0,t0,cs0,f0,p0,q0,hg0,ht0,hv0,hd0,⟨g1,t1,cs1,f1,p1,q1,hg1,ht1,hv1,hd1,_⟩,_⟩,_⟩:=h
  exact ⟨tabA_of hD hg0 ht0 hv0 hd0,tabT_of hD2 hg1 ht1 hv1 hd1⟩
end Go.Proofs.YtenkjloaghmjfaaGreatDoor
