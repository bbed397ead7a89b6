/- Texts joined. Conditions: as each theorem names them. -/
import Derived.Test.YtmmhmlmfhpfgbaaGreatDoorF31
set_option maxRecDepth 100000
set_option maxHeartbeats 32000000
set_option linter.unusedVariables false
set_option linter.unusedSimpArgs false
namespace Go.Proofs.YtmmhmlmfhpfgbaaGreatDoor
open Go.RowKit Go.Proofs.Tryz
section
attribute [local go_sem] Qoe Qnf Qmu Qk2 ByteArray.mk_append_mk
theorem Qn0(w0:World)(xs:List (Ty × Value))(xv:Value)(hxv:xv.oneCell'=true)(hsc:Gb w0 xv xs)(k:Kd)(hk:Ck k)(hsg:k.signs=[])(hbs:k.base=[64])(nm:List UInt8)(fs:List Fd)(tv:Value)(hx:Dy xs k.name=some (⟨85,nm,fs⟩,tv))(hfs:Dq w0 tv fs)(htg:∀f∈fs,f.tag<=200)
  (d:Nat) (hd:d<=1000) (z:List UInt8) (w:World) (hw:Below w0 w0 w) (hz:z.length<=1000000) (o:Option (Fd × List UInt8)) (ho:o=G0 fs z) (H:∀k',Ck k'->SrC w0 (Ad xs) xv k' d) (hfd:∀f∈fs,Ck f.kind) (htf:Bk (Ad xs) k.name=some ⟨85,nm,fs⟩)
  (R:Kd->List UInt8->Option (Vl × List UInt8)) (hR0:R=Ar (Ad xs) 20 d):
  Calls prog 160 #[.agg #[xv],(60::z:List UInt8),.string ⟨(Ax k).toArray⟩,.int .i64 ((d+1:Nat):Int)] w (Bx (Ad xs) k (unL R o) w):=by
 have hkd:∀f v,Au fs f.tag=some f->Cd (Ad xs) k (.mk 85 [] f.tag [v])=.mk (Ax k) [85] [f.tag] [Cd (Ad xs) f.kind v]:=fun f v hf=>by rw[Pf,Ez htf hf]
 have HRd:=@Aa (∀k',Ck k'->∀(s:List UInt8) (W:World),Below w0 w0 W->s.length<=1000000->Calls prog 105 #[.agg #[xv],s,.string ⟨(Ax k').toArray⟩,(d:Int)] W (Bx (Ad xs) k' (R k' s) W)) (fun k' hk' s W hW hs=>by rw[hR0];exact H k' hk' s W hW hs)
 have HFd:=Aa (show ∀f r,o=some (f,r)->Ck f.kind/\(Ax f.kind).length<=100/\Au fs f.tag=some f from fun f r h=>by
  obtain⟨_,h2,_⟩:=Kh (ho ▸ h);have:=hfd f (S7 h2).1;exact⟨this,by have:=this.2.2;omega,h2⟩)
 clear H hR0 hfd htf;have d1:(((d+1:Nat):Int)) - 1=(d:Int):=aH;have d4:(0:Int)<=(d:Int):=aH;have d5:(d:Int)<=1000:=aH;have hwd:IntKind.i64.wrap (d:Int)=(d:Int):=IntWalk.i64_in _ aH;generalize (((d+1:Nat):Int))=dd at *;obtain⟨A9,c9,rfl,hl9,_⟩:=hfs;have HFs:=@Aa (∀W,Below w0 w0 W->Dq W (.slice A9 fs.length c9) fs) (fun W hW=>Dq.below (show Dq w0 (.slice A9 fs.length c9) fs from⟨A9,c9,rfl,hl9,by assumption⟩) hW)
 have Hr:=Aa (show ∀W,Below w0 w0 W->Calls prog 101 #[xv,.string ⟨(Ax k).toArray⟩] W fun e w'=>e=.returned (.tuple #[.agg #[.int .u8 85,nm,.slice A9 fs.length c9],.bool true])/\Below W W w' from fun W hW=>by
  have h:=Ey xv xs k W (hsc.below hW) hk;rw[show Jq xs k=some (⟨85,nm,fs⟩,.slice A9 fs.length c9)from by unfold Jq;rw[if_pos ⟨hsg,hbs⟩];exact hx]at h;exact h)
 have HT:=@Aa (∀W,Below w0 w0 W->Calls prog 207 #[.agg #[xv],z,.agg #[.int .u8 85,nm,.slice A9 fs.length c9]] W (Nj (G0 fs z) z W)) (fun W hW=>Y8 xv (.int .u8 85) nm _ hxv rfl rfl fs z W (HFs.o W hW) htg aH);have hkl:(Ax k).length<=100:=cd;have hzl:z.length<=1000000:=hz;have Ho:=Aa ho;rw[<-ho]at HT;have Hw:=Aa hw;have Hkd:=Aa hkd;generalize Ax k=kb at *;clear hw hx hsc htg ho;go_enter func160,ntmps160;go_wp2_with fail;refine(Hr.o _ (Hw.o.alloc Hw.o.size _)).mono ?_;rintro e w1 ⟨rfl,hb1⟩;have hz1:=hb1.size;simp only[World.size_alloc]at hz1;have Hb1:=Aa (((Ao w.heap.size w).alloc (An _) _).trans (hb1.mono aK));have X0:=@Aa (w1.cell? (w,0)=some xv) eo;clear hb1;go_upto_region 8 with fail
 obtain⟨w2,hw2⟩:∃w2,w2=w1.alloc (.cells #[.int .u8 85,nm,.slice A9 fs.length c9] 143):=⟨_,rfl⟩
 have Hb2:=@Aa (Below w w w2) dY;have Hl0:=@Aa (w.heap.size<w2.drew.heap.size) gj;have Hl1:=@Aa (w1.heap.size<w2.drew.heap.size) ge;have X0:=@Aa (w2.drew.cell? (w,0)=some xv) eC;have X1:=@Aa (w2.drew.cell? (w1,0)=some (.int .u8 85)) cR;have X2:=@Aa (w2.drew.cell? (w1,1)=nm) cR;have X3:=@Aa (w2.drew.cell? (w1,2)=some (.slice A9 fs.length c9)) cR;have HC:=@Aa (∀W,Below w2.drew.heap.size w2.drew W->Calls prog 207 #[.agg #[xv],z,.agg #[.int .u8 85,nm,.slice A9 fs.length c9]] W (Nj o z W)) (fun W hW=>HT.o W ((Hw.o.trans (Hb2.o.mono Hw.o.size)).trans ((Ao _ _).drew.trans (hW.mono aK) |>.mono (ad Hw.o.size Hb2.o.size))));rw[<-hw2];clear hw2;refine Jd [84,85,86,87,88,83,89,90,91,16,999,17,18]
  (fun ix v W=>match ix with|0=>v=.agg #[xv]|1=>v=(60::z:List UInt8)|2=>v=(z:List UInt8)|3=>v=.agg #[.int .u8 85,nm,.slice A9 fs.length c9]|_=>True)
  (fun L U W=>Jj w2.drew o z (L 4) (L 5) (L 6) (L 7) (L 8) (L 9) (L 10) (L 11) (L 12) (U 4) (U 5) (U 6) (U 7) (U 8) (U 9) (U 11) (U 12) W) (Jj.start) ?_ ?_
 ·exact hH
 rintro L U W hL hφ hR;clear hφ;obtain⟨n,a,b,c,r,B,hF,u9,u11,u12,hB1,hB2,hrg,hbe⟩:=hR.fin (hL 4 aJ) (hL 6 aJ) (hL 9 aJ) (hL 10 aJ) (hL 11 aJ) (hL 12 aJ);simp only[u9,u11,u12];clear hR hL u9 u11 u12;have HF:=Aa hF;have HB:=@Aa (Below w w W) (Hb2.o.trans (((Ao _ _).drew.trans (hbe.mono aK)).mono Hb2.o.size));have hl0:w.heap.size<W.heap.size:=by have:=Hl0.o;have:=hbe.size;omega
 have q0:W.cell? (w,0)=some xv:=(hbe.cell (p:=⟨w.heap.size,0,none⟩) Hl0.o).trans X0.o;have hBw:w.heap.size<=B:=by have:=Hl0.o;omega
 clear hbe hF;cases o with
 |none=>
  simp only[Option.isSome_none];clear hrg;go_wp2_with fail;refine aF (v:=.tuple #[.pointer none,(60::z:List UInt8),.bool false]) (by simp[results,results160,go_sem]) rfl ?_;exact Bx.no rfl rfl HB.o
 |some y=>
  obtain⟨f,q⟩:=y;obtain⟨rfl,rfl,rfl,rfl,rfl⟩:=HF.o.2.2 f q rfl;simp only[Option.isSome_some];have hrl:=HF.o.1;obtain⟨hkf,hkfl,hft⟩:=HFd.o f r rfl;have y0:W.cell? (B,0)=(f.tag:Int):=fB;have y2:W.cell? (B,2)=some (.string ⟨(Ax f.kind).toArray⟩):=by simpa using Ab hrg 2 rfl
  have HRd:=Aa (fun(s:List UInt8) (W:World) h1 h2=>HRd.o f.kind hkf s W h1 h2);have Hft:=Aa hft;generalize hkb2:Ax f.kind=kf at *;clear hrg hkf hft;cases r with
  |nil=>
   go_wp2_with fail;refine aF (v:=.tuple #[.pointer none,(60::z:List UInt8),.bool false]) (by simp[results,results160,go_sem]) rfl ?_;exact Bx.no rfl rfl HB.o
  |cons c9 q1=>
   by_cases h61:c9=61
   ·subst h61;have HU:=@Aa (unL R (some (f,61::q1))=match R f.kind q1 with|none=>none|some (v,q)=>(match Av 62 q with|some z'=>some (.mk 85 [] f.tag [v],z')|none=>none)) (by first|(simp only[unL,Bv];done)|(simp only[unL,Bv];rfl));have t61:((((61:UInt8).toNat:Nat):Int) != 61)=false:=rfl;have HW9:=@Aa (Below w0 w0 W.drew) ((Hw.o.trans (HB.o.mono Hw.o.size)).drew);have hq1:q1.length<=1000000:=by simp at hrl;omega
    have HCR:=Aa (HRd.o q1 W.drew HW9.o hq1);generalize R f.kind q1=oq at *;simp only[List.length_cons]at hrl;go_wp2_with fail;refine rgT (SrQ W.drew (Ad xs) f.kind oq) 7 8 (fun W vp vr vk h=>h.1) ?_;iterate 2 refine sq ?_
    refine sqS q1 ?_;iterate 4 refine sq ?_
    refine sqK HCR.o ?_;refine sqM ?_;iterate 3 refine sqP ?_
    iterate 3 refine sqA ?_
    intro l u W5 hl _ hR;obtain⟨vp,vr,vk,hq5,ua,ub,ue⟩:=RK.fin hR hl aJ aJ;simp only[Nat.reduceAdd]at ua ub ue;simp only[ua,ub,ue];clear hR hl ua ub ue;have HB5:=@Aa (Below w w W5) ((HB.o.drew).trans (hq5.1.mono (by simp;exact HB.o.size)));have y05:W5.cell? (B,0)=(f.tag:Int):=(hq5.1.cell (p:=⟨B,0,none⟩) (by simpa using hB2)).trans y0;have hz5:=hq5.1.size;simp only[World.size_drew]at hz5;obtain⟨_,hm⟩:=hq5;cases oq with
    |none=>
     obtain⟨⟨q0,rfl⟩,⟨r0,rfl⟩,rfl⟩:=hm;have HN:=Aa HU.o;go_wp2_with fail;refine aF (v:=.tuple #[.pointer none,(60::z:List UInt8),.bool false]) (by simp[results,results160,go_sem]) rfl ?_;exact Bx.no HN.o rfl HB5.o
    |some y=>
     obtain⟨v,r1⟩:=y;obtain⟨⟨b5,rfl,hsv⟩,rfl,rfl⟩:=hm;have Hsv:=Aa hsv;clear hsv;cases r1 with
     |nil=>
      have HN:=Aa HU.o;go_wp2_with fail;refine aF (v:=.tuple #[.pointer none,(60::z:List UInt8),.bool false]) (by simp[results,results160,go_sem]) rfl ?_;exact Bx.no HN.o rfl HB5.o
     |cons c8 z8=>
      by_cases h62:c8=62
      ·subst h62;have HY:=@Aa (unL R (some (f,61::q1))=some (.mk 85 [] f.tag [v],z8)) (by rw[HU.o];simp only[Bv]);have t62:((((62:UInt8).toNat:Nat):Int) != 62)=false:=rfl;go_wp2_with fail;have hB5:B<W5.heap.size:=aH;refine rgU kb f.tag b5 ?_;iterate 3 refine sq ?_
       refine Qot ?_;refine sq ?_;refine Qog ?_;refine Qok ?_;refine Qoi ?_;refine sq ?_;refine sqS z8 ?_;refine Qn6 ?_;iterate 2 refine sq ?_
       intro l u W hl hφ hR;have hR:=RU.to hR;simp only[Xw,List.nil_append,av,am,Nat.reduceAdd]at hφ;obtain⟨B7,u10,hS⟩:=hR.at_ (P:=fun c=>w.heap.size<=c) (hl 10 aJ) (fun c hc=>ad HB5.o.size hc) (Hsv.o.mono (fun c hc _=>ad (by simp;exact HB.o.size) hc));have hbe:=hR.be;simp only[u10,hφ];clear hR hl hφ u10;go_wp2_with fail;refine aF (v:=.tuple #[B7,z8,.bool true]) (by simp[results,results160,go_sem]) rfl ?_;rw[HY.o];refine⟨⟨B7,rfl,?_⟩,HB5.o.trans (hbe.mono HB5.o.size)⟩;rw[Hkd.o f v Hft.o];exact hS
      have t62:((c8.toNat:Int) != 62)=true:=by have:=Ap h62;simpa using this
      have HN:=@Aa (unL R (some (f,61::q1))=none) (by rw[HU.o];simp only[Dm h62]);clear h62;go_wp2_with fail;refine aF (v:=.tuple #[.pointer none,(60::z:List UInt8),.bool false]) (by simp[results,results160,go_sem]) rfl ?_;exact Bx.no HN.o rfl HB5.o
   have t61:((c9.toNat:Int) != 61)=true:=by have:=Ap h61;simpa using this
   have HN:=@Aa (unL R (some (f,c9::q1))=none) (by simp only[unL,Dm h61]);clear h61;go_wp2_with fail;refine aF (v:=.tuple #[.pointer none,(60::z:List UInt8),.bool false]) (by simp[results,results160,go_sem]) rfl ?_;exact Bx.no HN.o rfl HB.o
theorem Qn1(w0:World)(xs:List (Ty × Value))(xv:Value)(hxv:xv.oneCell'=true)(hsc:Gb w0 xv xs)(k:Kd)(hk:Ck k)(hsg:k.signs=[])(hbs:k.base=[64])(nm:List UInt8)(fs:List Fd)(tv:Value)(hx:Dy xs k.name=some (⟨82,nm,fs⟩,tv))(hfs:Dq w0 tv fs)(htg:∀f∈fs,f.tag<=200)
  (d:Nat) (hd:d<=1000) (z:List UInt8) (w:World) (hw:Below w0 w0 w) (hz:z.length<=1000000) (o:Option (Fd × List UInt8)) (ho:o=G0 fs z) (q:Option (Vl × List UInt8))
  (HC:∀W,Below w0 w0 W->Calls prog 206 #[.agg #[xv],z,.string ⟨(Ax k).toArray⟩,.agg #[.int .u8 82,nm,tv],.int .i64 ((d+1:Nat):Int)] W (Bx (Ad xs) k q W)):
  Calls prog 160 #[.agg #[xv],(123::z:List UInt8),.string ⟨(Ax k).toArray⟩,.int .i64 ((d+1:Nat):Int)] w (Bx (Ad xs) k q w):=by
 have hkd:True:=Ac;have d2:(((d+1:Nat):Int))<=1001:=aH;generalize (((d+1:Nat):Int))=dd at *;have HC:=Aa HC;obtain⟨A9,c9,rfl,hl9,_⟩:=hfs;have HFs:=@Aa (∀W,Below w0 w0 W->Dq W (.slice A9 fs.length c9) fs) (fun W hW=>Dq.below (show Dq w0 (.slice A9 fs.length c9) fs from⟨A9,c9,rfl,hl9,by assumption⟩) hW)
 have Hr:=Aa (show ∀W,Below w0 w0 W->Calls prog 101 #[xv,.string ⟨(Ax k).toArray⟩] W fun e w'=>e=.returned (.tuple #[.agg #[.int .u8 82,nm,.slice A9 fs.length c9],.bool true])/\Below W W w' from fun W hW=>by
  have h:=Ey xv xs k W (hsc.below hW) hk;rw[show Jq xs k=some (⟨82,nm,fs⟩,.slice A9 fs.length c9)from by unfold Jq;rw[if_pos ⟨hsg,hbs⟩];exact hx]at h;exact h)
 have hkl:(Ax k).length<=100:=cd;have hzl:z.length<=1000000:=hz;have Hw:=Aa hw;have Hkd:=Aa hkd;generalize Ax k=kb at *;clear hw hx hsc htg ho;go_enter func160,ntmps160;go_wp2_with fail;refine(Hr.o _ (Hw.o.alloc Hw.o.size _)).mono ?_;rintro e w1 ⟨rfl,hb1⟩;have hz1:=hb1.size;simp only[World.size_alloc]at hz1;have Hb1:=Aa (((Ao w.heap.size w).alloc (An _) _).trans (hb1.mono aK));have X0:=@Aa (w1.cell? (w,0)=some xv) eo;clear hb1;go_upto_region 3 with fail
 obtain⟨w2,hw2⟩:∃w2,w2=w1.alloc (.cells #[.int .u8 82,nm,.slice A9 fs.length c9] 143):=⟨_,rfl⟩
 have Hb2:=@Aa (Below w w w2) dY;have Hl0:=@Aa (w.heap.size<w2.drew.heap.size) gj;have Hl1:=@Aa (w1.heap.size<w2.drew.heap.size) ge;have X0:=@Aa (w2.drew.cell? (w,0)=some xv) eC;have X1:=@Aa (w2.drew.cell? (w1,0)=some (.int .u8 82)) cR;have X2:=@Aa (w2.drew.cell? (w1,1)=nm) cR;have X3:=@Aa (w2.drew.cell? (w1,2)=some (.slice A9 fs.length c9)) cR;rw[<-hw2];clear hw2;have HC9:=Aa (HC.o w2.drew (Hw.o.trans (Hb2.o.mono Hw.o.size)).drew);have q0:=X0.o;have q1:=X1.o;have q2:=X2.o;have q3:=X3.o;have l0:=Hl0.o;have l1:=Hl1.o;simp only[aB,World.size_drew]at q0 q1 q2 q3 l0 l1;refine rgT (SrQ w2.drew (Ad xs) k q) 6 6 (fun W vp vr vk h=>h.1) ?_;iterate 2 refine sq ?_
 refine sqS z ?_;iterate 3 refine sq ?_
 refine Qnv HC9.o ?_;iterate 3 refine sqP ?_
 iterate 3 refine sqA ?_
 intro l u W hl _ hR;obtain⟨vp,vr,vk,hq5,ua,ub,ue⟩:=RK.fin hR hl aJ aJ;simp only[Nat.reduceAdd]at ua ub ue;simp only[ua,ub,ue];clear hR hl ua ub ue;go_wp2_with fail;refine aF (v:=.tuple #[vp,vr,vk]) (by simp[results,results160,go_sem]) rfl ?_;exact hq5.post Hb2.o.drew
theorem Qmn(S:List Ty)(k:Kd)(w0:World)(xv:Value)(hxv:xv.oneCell'=true)(kb:List UInt8)(hkl:kb.length<=100)(st:Int)(nm:ByteArray)(A:Option Addr)(n c:Nat)(b:Bool)(c0:UInt8)(z:List UInt8)(dd:Int)(w:World)(hw:Below w0 w0 w)(hz:z.length<=1000000)
  (hr:∀W,Below w0 w0 W->Calls prog 101 #[xv,kb] W fun e w'=>e=.returned (.tuple #[.agg #[.int .u8 st,.string nm,.slice A n c],.bool b])/\Below W W w')
  (hc:((st == 82)=true/\((c0.toNat:Int) == 123)=false/\(st == 69)=false/\(st == 85)=false)\/((st == 82)=false/\(st == 69)=true/\((c0.toNat:Int) == 35)=false/\(st == 85)=false)\/((st == 82)=false/\(st == 69)=false/\(st == 85)=true/\((c0.toNat:Int) == 60)=false)\/((st == 82)=false/\(st == 69)=false/\(st == 85)=false)):
  Calls prog 160 #[.agg #[xv],(c0::z:List UInt8),kb,.int .i64 dd] w (Bx S k none w):=by
 have Hr:=Aa hr;have Hw:=Aa hw;clear hr hw;have key:∀w1,Below (w.alloc (.cells #[xv] 79)).heap.size (w.alloc (.cells #[xv] 79)) w1->Below w w (w1.alloc (.cells #[.int .u8 st,.string nm,.slice A n c] 143)):=fun w1 hb=>by
  have h1:=((Ao w.heap.size w).alloc (An _) (.cells #[xv] 79)).trans (hb.mono aK);exact h1.alloc h1.size _
 have Hkey:=Aa key;clear key;rcases hc with⟨h1,h2,h3,h4⟩|⟨h1,h2,h3,h4⟩|⟨h1,h2,h3,h4⟩|⟨h1,h2,h3⟩;all_goals
  go_enter func160,ntmps160;go_wp2_with fail;refine(Hr.o _ (Hw.o.alloc Hw.o.size _)).mono ?_;rintro e w1 ⟨rfl,hb1⟩;have Hb2:=Aa (Hkey.o w1 hb1);clear hb1;go_wp2_with fail;refine aF (v:=.tuple #[.pointer none,(c0::z:List UInt8),.bool false]) (by simp[results,results160,go_sem]) rfl ?_;exact Bx.no rfl rfl Hb2.o
end
end Go.Proofs.YtmmhmlmfhpfgbaaGreatDoor
