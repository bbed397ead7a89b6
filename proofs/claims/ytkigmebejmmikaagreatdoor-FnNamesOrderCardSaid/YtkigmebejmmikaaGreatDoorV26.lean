/- Texts joined. Conditions: as each theorem names them. -/
import Derived.Test.YtkigmebejmmikaaGreatDoorV25
set_option maxRecDepth 100000
set_option maxHeartbeats 32000000
set_option linter.unusedVariables false
set_option linter.unusedSimpArgs false
namespace Go.Proofs.YtkigmebejmmikaaGreatDoor
open Go.RowKit Go.Proofs.Tryz
section
attribute [local go_sem] Qo1 Qof Qnv Qlx ByteArray.mk_append_mk
theorem Qoi(w0:World)(xs:List (Ty × Value))(xv:Value)(hxv:xv.oneCell'=true)(hsc:G8 w0 xv xs)(k:Kd)(hk:Ch k)(hsg:k.signs=[])(hbs:k.base=[64])(nm:List UInt8)(fs:List Fd)(tv:Value)(hx:E3 xs k.name=some (⟨85,nm,fs⟩,tv))(hfs:Ef w0 tv fs)(htg:∀f∈fs,f.tag<=200)
  (d:Nat) (hd:d<=1000) (z:List UInt8) (w:World) (hw:Below w0 w0 w) (hz:z.length<=1000000) (o:Option (Fd × List UInt8)) (ho:o=Ha fs z) (H:∀k',Ch k'->SrC w0 (Ag xs) xv k' d) (hfd:∀f∈fs,Ch f.kind) (htf:B6 (Ag xs) k.name=some ⟨85,nm,fs⟩)
  (R:Kd->List UInt8->Option (Vl × List UInt8)) (hR0:R=Ap (Ag xs) 20 d):
  Calls prog 67 #[.agg #[xv],(60::z:List UInt8),.string ⟨(Bt k).toArray⟩,.int .i64 ((d+1:Nat):Int)] w (Bz (Ag xs) k (unL R o) w):=by
 have hkd:∀f v,Bj fs f.tag=some f->Cj (Ag xs) k (.mk 85 [] f.tag [v])=.mk (Bt k) [85] [f.tag] [Cj (Ag xs) f.kind v]:=fun f v hf=>by rw[Qu,Cv htf hf]
 have HRd:=@Aa (∀k',Ch k'->∀(s:List UInt8) (W:World),Below w0 w0 W->s.length<=1000000->Calls prog 30 #[.agg #[xv],s,.string ⟨(Bt k').toArray⟩,(d:Int)] W (Bz (Ag xs) k' (R k' s) W)) (fun k' hk' s W hW hs=>by rw[hR0];exact H k' hk' s W hW hs)
 have HFd:=Aa (show ∀f r,o=some (f,r)->Ch f.kind/\(Bt f.kind).length<=100/\Bj fs f.tag=some f from fun f r h=>by
  obtain⟨_,h2,_⟩:=Kn (ho ▸ h);have:=hfd f (Sm h2).1;exact⟨this,by have:=this.2.2;omega,h2⟩)
 clear H hR0 hfd htf;have d1:(((d+1:Nat):Int)) - 1=(d:Int):=aG;have d4:(0:Int)<=(d:Int):=aG;have d5:(d:Int)<=1000:=aG;have hwd:IntKind.i64.wrap (d:Int)=(d:Int):=IntWalk.i64_in _ aG;generalize (((d+1:Nat):Int))=dd at *;obtain⟨A9,c9,rfl,hl9,_⟩:=hfs;have HFs:=@Aa (∀W,Below w0 w0 W->Ef W (.slice A9 fs.length c9) fs) (fun W hW=>Ef.below (show Ef w0 (.slice A9 fs.length c9) fs from⟨A9,c9,rfl,hl9,by assumption⟩) hW)
 have Hr:=Aa (show ∀W,Below w0 w0 W->Calls prog 47 #[xv,.string ⟨(Bt k).toArray⟩] W fun e w'=>e=.returned (.tuple #[.agg #[.int .u8 85,nm,.slice A9 fs.length c9],.bool true])/\Below W W w' from fun W hW=>by
  have h:=Gf xv xs k W (hsc.below hW) hk;rw[show J3 xs k=some (⟨85,nm,fs⟩,.slice A9 fs.length c9)from by unfold J3;rw[if_pos ⟨hsg,hbs⟩];exact hx]at h;exact h)
 have HT:=@Aa (∀W,Below w0 w0 W->Calls prog 108 #[.agg #[xv],z,.agg #[.int .u8 85,nm,.slice A9 fs.length c9]] W (Nr (Ha fs z) z W)) (fun W hW=>Yk xv (.int .u8 85) nm _ hxv rfl rfl fs z W (HFs.o W hW) htg aG);have hkl:(Bt k).length<=100:=bW;have hzl:z.length<=1000000:=hz;have Ho:=Aa ho;rw[<-ho]at HT;have Hw:=Aa hw;have Hkd:=Aa hkd;generalize Bt k=kb at *;clear hw hx hsc htg ho;go_enter func67,ntmps67;go_wp2_with fail;refine(Hr.o _ (Hw.o.alloc Hw.o.size _)).mono ?_;rintro e w1 ⟨rfl,hb1⟩;have hz1:=hb1.size;simp only[World.size_alloc]at hz1;have Hb1:=Aa (((Aw w.heap.size w).alloc (Ar _) _).trans (hb1.mono aL));have X0:=@Aa (w1.cell? (w,0)=some xv) eM;clear hb1;go_upto_region 8 with fail
 obtain⟨w2,hw2⟩:∃w2,w2=w1.alloc (.cells #[.int .u8 85,nm,.slice A9 fs.length c9] 95):=⟨_,rfl⟩
 have Hb2:=@Aa (Below w w w2) eE;have Hl0:=@Aa (w.heap.size<w2.drew.heap.size) gL;have Hl1:=@Aa (w1.heap.size<w2.drew.heap.size) gC;have X0:=@Aa (w2.drew.cell? (w,0)=some xv) eS;have X1:=@Aa (w2.drew.cell? (w1,0)=some (.int .u8 85)) cQ;have X2:=@Aa (w2.drew.cell? (w1,1)=nm) cQ;have X3:=@Aa (w2.drew.cell? (w1,2)=some (.slice A9 fs.length c9)) cQ;have HC:=@Aa (∀W,Below w2.drew.heap.size w2.drew W->Calls prog 108 #[.agg #[xv],z,.agg #[.int .u8 85,nm,.slice A9 fs.length c9]] W (Nr o z W)) (fun W hW=>HT.o W ((Hw.o.trans (Hb2.o.mono Hw.o.size)).trans ((Aw _ _).drew.trans (hW.mono aL) |>.mono (ad Hw.o.size Hb2.o.size))));rw[<-hw2];clear hw2;refine Qr [84,85,86,87,88,83,89,90,91,16,999,17,18]
  (fun ix v W=>match ix with|0=>v=.agg #[xv]|1=>v=(60::z:List UInt8)|2=>v=(z:List UInt8)|3=>v=.agg #[.int .u8 85,nm,.slice A9 fs.length c9]|_=>True)
  (fun L U W=>Jy w2.drew o z (L 4) (L 5) (L 6) (L 7) (L 8) (L 9) (L 10) (L 11) (L 12) (U 4) (U 5) (U 6) (U 7) (U 8) (U 9) (U 11) (U 12) W) (Jy.start) ?_ ?_
 ·exact iw
 rintro L U W hL hφ hR;clear hφ;obtain⟨n,a,b,c,r,B,hF,u9,u11,u12,hB1,hB2,hrg,hbe⟩:=hR.fin (hL 4 aJ) (hL 6 aJ) (hL 9 aJ) (hL 10 aJ) (hL 11 aJ) (hL 12 aJ);simp only[u9,u11,u12];clear hR hL u9 u11 u12;have HF:=Aa hF;have HB:=@Aa (Below w w W) (Hb2.o.trans (((Aw _ _).drew.trans (hbe.mono aL)).mono Hb2.o.size));have hl0:w.heap.size<W.heap.size:=by have:=Hl0.o;have:=hbe.size;omega
 have q0:W.cell? (w,0)=some xv:=(hbe.cell (p:=⟨w.heap.size,0,none⟩) Hl0.o).trans X0.o;have hBw:w.heap.size<=B:=by have:=Hl0.o;omega
 clear hbe hF;cases o with
 |none=>
  simp only[Option.isSome_none];clear hrg;go_wp2_with fail;refine aE (v:=.tuple #[.pointer none,(60::z:List UInt8),.bool false]) (by simp[results,results67,go_sem]) rfl ?_;exact Bz.no rfl rfl HB.o
 |some y=>
  obtain⟨f,q⟩:=y;obtain⟨rfl,rfl,rfl,rfl,rfl⟩:=HF.o.2.2 f q rfl;simp only[Option.isSome_some];have hrl:=HF.o.1;obtain⟨hkf,hkfl,hft⟩:=HFd.o f r rfl;have y0:W.cell? (B,0)=(f.tag:Int):=by simpa using Ab hrg 0 rfl
  have y2:W.cell? (B,2)=some (.string ⟨(Bt f.kind).toArray⟩):=by simpa using Ab hrg 2 rfl
  have HRd:=Aa (fun(s:List UInt8) (W:World) h1 h2=>HRd.o f.kind hkf s W h1 h2);have Hft:=Aa hft;generalize hkb2:Bt f.kind=kf at *;clear hrg hkf hft;cases r with
  |nil=>
   go_wp2_with fail;refine aE (v:=.tuple #[.pointer none,(60::z:List UInt8),.bool false]) (by simp[results,results67,go_sem]) rfl ?_;exact Bz.no rfl rfl HB.o
  |cons c9 q1=>
   by_cases h61:c9=61
   ·subst h61;have HU:=@Aa (unL R (some (f,61::q1))=match R f.kind q1 with|none=>none|some (v,q)=>(match Aj 62 q with|some z'=>some (.mk 85 [] f.tag [v],z')|none=>none)) (by first|(simp only[unL,Az];done)|(simp only[unL,Az];rfl));have t61:((((61:UInt8).toNat:Nat):Int) != 61)=false:=rfl;have HW9:=@Aa (Below w0 w0 W.drew) ((Hw.o.trans (HB.o.mono Hw.o.size)).drew);have hq1:q1.length<=1000000:=by simp at hrl;omega
    have HCR:=Aa (HRd.o q1 W.drew HW9.o hq1);generalize R f.kind q1=oq at *;simp only[List.length_cons]at hrl;go_wp2_with fail;refine Bq [105,106,107,108,109,110,111,112,104,113,114,115,19,20,21] aM aM aM (fun u=>by dsimp only[B9,Bw,List.set,am,Nat.reduceAdd])
     (fun ix v W5=>match ix with|0=>v=.agg #[xv]|1=>v=(61::q1:List UInt8)|2=>v=(q1:List UInt8)|3=>v=(B,2)|4=>v=(kf:List UInt8)|5=>v=.int .i64 dd|6=>v=(d:Int)|_=>True)
     (fun L U W5=>Jm (SrQ W.drew (Ag xs) f.kind oq) (W.drew) (L 7) (L 8) (L 9) (L 10) (L 11) (L 12) (L 13) (L 14) (U 7) (U 8) (U 9) (U 10) (U 11) (U 12) (U 13) (U 14) W5) (fun _ _=>True) (fun _ _ _ _ _ h=>h) (⟨fun _=>rfl,fun h=>Bool.noConfusion h⟩) ?_ ?_
    ·repeat (first|exact Av.nil|(refine Av.cons ?_ ?_;rotate_left))
     all_goals
      rintro L U W5 hL hpre hR hun hdep K hK;have HR:=Aa hR;have Hdep:=Aa hdep;clear hun hdep hR;first|(simp[Region.binds]at hpre;done)|simp[Region.binds]at hpre|clear hpre
     ·exact ju
     ·exact ir
     ·go_simp;rw[if_pos aG];go_simp;exact hK q1 _ _ rfl Ac HR.o aI
     ·exact ir
     ·exact jv
     ·exact ir
     ·exact jP
     ·exact iV
     ·exact ke
     ·exact jo
     ·exact jp
     ·exact jq
     ·exact jZ
     ·exact jR
     ·exact jS
    rintro L U W5 hL hφ hR;clear hφ;obtain⟨vp,vr,vk,hq,ua,ub,ue⟩:=hR.fin (hL 7 aJ) (hL 12 aJ) (hL 13 aJ) (hL 14 aJ);simp only[ua,ub,ue];clear hR hL ua ub ue;have HB5:=@Aa (Below w w W5) ((HB.o.drew).trans (hq.1.mono (by simp;exact HB.o.size)));have y05:W5.cell? (B,0)=(f.tag:Int):=(hq.1.cell (p:=⟨B,0,none⟩) (by simpa using hB2)).trans y0;have hz5:=hq.1.size;simp only[World.size_drew]at hz5;obtain⟨_,hm⟩:=hq;cases oq with
    |none=>
     obtain⟨⟨q0,rfl⟩,⟨r0,rfl⟩,rfl⟩:=hm;have HN:=Aa HU.o;go_wp2_with fail;refine aE (v:=.tuple #[.pointer none,(60::z:List UInt8),.bool false]) (by simp[results,results67,go_sem]) rfl ?_;exact Bz.no HN.o rfl HB5.o
    |some y=>
     obtain⟨v,r1⟩:=y;obtain⟨⟨b5,rfl,hsv⟩,rfl,rfl⟩:=hm;have Hsv:=Aa hsv;clear hsv;cases r1 with
     |nil=>
      have HN:=Aa HU.o;go_wp2_with fail;refine aE (v:=.tuple #[.pointer none,(60::z:List UInt8),.bool false]) (by simp[results,results67,go_sem]) rfl ?_;exact Bz.no HN.o rfl HB5.o
     |cons c8 z8=>
      by_cases h62:c8=62
      ·subst h62;have HY:=@Aa (unL R (some (f,61::q1))=some (.mk 85 [] f.tag [v],z8)) (by rw[HU.o];simp only[Az]);have t62:((((62:UInt8).toNat:Nat):Int) != 62)=false:=rfl;go_wp2_with fail;refine Qr [128,129,130,131,132,133,134,135,136,137,8,9,10]
        (fun ix v W=>match ix with|0=>v=(kb:List UInt8)|1=>v=B|2=>v=(f.tag:Int)|4=>v=b5|8=>v=(62::z8:List UInt8)|9=>v=(z8:List UInt8)|11=>v=(z8:List UInt8)|12=>v=.bool true|_=>True)
        (fun L U W=>G6 W5.drew kb f.tag b5 (L 3) (L 5) (L 6) (L 7) (L 10) (U 3) (U 5) (U 6) (U 7) (U 10) W) (G6.start) ?_ ?_
       ·repeat (first|exact Av.nil|(refine Av.cons ?_ ?_;rotate_left))
        all_goals
         rintro L U W hL hpre HR Hdep K hK;first|(simp[Region.binds]at hpre;done)|simp[Region.binds]at hpre|clear hpre
        iterate 2
         ·exact ir
        ·have y06:=(HR.o.be.cell (p:=⟨B,0,none⟩) aO).trans ((aA _ _).trans y05);exact lQ
        ·have h6:L 6=false:=Bv Hdep.o 6 3 rfl hL;have h7:L 7=false:=Bv Hdep.o 7 6 rfl h6;go_simp;exact hK _ _ _ Ac Ac (HR.o.put3 h6 h7 _) aI
        ·exact ir
        ·have h6:L 6=false:=Bv Hdep.o 6 5 rfl hL;have h7:L 7=false:=Bv Hdep.o 7 6 rfl h6;go_simp;exact hK _ _ _ Ac Ac (HR.o.put5 h6 h7 _) aI
        ·have l3:=hpre.2.1;have l5:=hpre.2.2;obtain⟨B3,u3,_⟩:=HR.o.a3 l3;obtain⟨B5,u5,_⟩:=HR.o.a5 l5;simp only[u3,u5];go_simp;exact hK (.agg #[kb,.string ⟨#[85]⟩,.slice (B3,0) 1 1,.slice (B5,0) 1 1]) _ _ Ac Ac (HR.o.put6 l3 l5 (by simp[u3,u5])) (by simp[Act.put,hpre,u3,u5])
        ·have l6:L 6=true:=aK;have u6:=(HR.o.a6 l6).2.2;have h10:L 10=false:=Bv Hdep.o 10 7 rfl hL;obtain⟨B3,u3,_⟩:=HR.o.a3 (HR.o.a6 l6).1;obtain⟨B5,u5,_⟩:=HR.o.a5 (HR.o.a6 l6).2.1;rw[u3,u5]at u6;simp only[u6];go_simp;exact hK _ _ _ Ac Ac (HR.o.put7 l6 h10 (by rw[u3,u5])) (by simp[Act.put,hpre,u6,u3,u5])
        ·exact ir
        ·go_simp;rw[if_pos aG];go_simp;exact hK z8 _ _ rfl Ac HR.o aI
        ·go_simp;exact hK _ _ _ Ac Ac HR.o.put10 aI
        iterate 2
         ·exact ir
       rintro L U W hL hφ hR;obtain⟨B7,u10,hS⟩:=hR.fin (hL 7 aJ) (hL 10 aJ) (lo:=w.heap.size) (by simp;exact HB5.o.size) ((Hsv.o.mono (fun c hc _=>ad (by simp;exact HB.o.size) hc)).after (Aw _ _).drew);have u11:U 11=(z8:List UInt8):=hφ 11 aJ;have u12:U 12=.bool true:=hφ 12 aJ;have hbe:=hR.be;simp only[u10,u11,u12];clear hR hL hφ u10 u11 u12;go_wp2_with fail;refine aE (v:=.tuple #[B7,z8,.bool true]) (by simp[results,results67,go_sem]) rfl ?_;rw[HY.o];refine⟨⟨B7,rfl,?_⟩,HB5.o.trans ((((Aw _ _).drew).trans (hbe.mono aL)).mono HB5.o.size)⟩;rw[Hkd.o f v Hft.o];exact hS
      have t62:((c8.toNat:Int) != 62)=true:=by have:=At h62;simpa using this
      have HN:=@Aa (unL R (some (f,61::q1))=none) (by rw[HU.o];simp only[C9 h62]);clear h62;go_wp2_with fail;refine aE (v:=.tuple #[.pointer none,(60::z:List UInt8),.bool false]) (by simp[results,results67,go_sem]) rfl ?_;exact Bz.no HN.o rfl HB5.o
   have t61:((c9.toNat:Int) != 61)=true:=by have:=At h61;simpa using this
   have HN:=@Aa (unL R (some (f,c9::q1))=none) (by simp only[unL,C9 h61]);clear h61;go_wp2_with fail;refine aE (v:=.tuple #[.pointer none,(60::z:List UInt8),.bool false]) (by simp[results,results67,go_sem]) rfl ?_;exact Bz.no HN.o rfl HB.o
theorem Qon(w0:World)(xs:List (Ty × Value))(xv:Value)(hxv:xv.oneCell'=true)(hsc:G8 w0 xv xs)(k:Kd)(hk:Ch k)(hsg:k.signs=[])(hbs:k.base=[64])(nm:List UInt8)(fs:List Fd)(tv:Value)(hx:E3 xs k.name=some (⟨82,nm,fs⟩,tv))(hfs:Ef w0 tv fs)(htg:∀f∈fs,f.tag<=200)
  (d:Nat) (hd:d<=1000) (z:List UInt8) (w:World) (hw:Below w0 w0 w) (hz:z.length<=1000000) (o:Option (Fd × List UInt8)) (ho:o=Ha fs z) (q:Option (Vl × List UInt8))
  (HC:∀W,Below w0 w0 W->Calls prog 107 #[.agg #[xv],z,.string ⟨(Bt k).toArray⟩,.agg #[.int .u8 82,nm,tv],.int .i64 ((d+1:Nat):Int)] W (Bz (Ag xs) k q W)):
  Calls prog 67 #[.agg #[xv],(123::z:List UInt8),.string ⟨(Bt k).toArray⟩,.int .i64 ((d+1:Nat):Int)] w (Bz (Ag xs) k q w):=by
 have hkd:True:=Ac;have d2:(((d+1:Nat):Int))<=1001:=aG;generalize (((d+1:Nat):Int))=dd at *;have HC:=Aa HC;obtain⟨A9,c9,rfl,hl9,_⟩:=hfs;have HFs:=@Aa (∀W,Below w0 w0 W->Ef W (.slice A9 fs.length c9) fs) (fun W hW=>Ef.below (show Ef w0 (.slice A9 fs.length c9) fs from⟨A9,c9,rfl,hl9,by assumption⟩) hW)
 have Hr:=Aa (show ∀W,Below w0 w0 W->Calls prog 47 #[xv,.string ⟨(Bt k).toArray⟩] W fun e w'=>e=.returned (.tuple #[.agg #[.int .u8 82,nm,.slice A9 fs.length c9],.bool true])/\Below W W w' from fun W hW=>by
  have h:=Gf xv xs k W (hsc.below hW) hk;rw[show J3 xs k=some (⟨82,nm,fs⟩,.slice A9 fs.length c9)from by unfold J3;rw[if_pos ⟨hsg,hbs⟩];exact hx]at h;exact h)
 have hkl:(Bt k).length<=100:=bW;have hzl:z.length<=1000000:=hz;have Hw:=Aa hw;have Hkd:=Aa hkd;generalize Bt k=kb at *;clear hw hx hsc htg ho;go_enter func67,ntmps67;go_wp2_with fail;refine(Hr.o _ (Hw.o.alloc Hw.o.size _)).mono ?_;rintro e w1 ⟨rfl,hb1⟩;have hz1:=hb1.size;simp only[World.size_alloc]at hz1;have Hb1:=Aa (((Aw w.heap.size w).alloc (Ar _) _).trans (hb1.mono aL));have X0:=@Aa (w1.cell? (w,0)=some xv) eM;clear hb1;go_upto_region 3 with fail
 obtain⟨w2,hw2⟩:∃w2,w2=w1.alloc (.cells #[.int .u8 82,nm,.slice A9 fs.length c9] 95):=⟨_,rfl⟩
 have Hb2:=@Aa (Below w w w2) eE;have Hl0:=@Aa (w.heap.size<w2.drew.heap.size) gL;have Hl1:=@Aa (w1.heap.size<w2.drew.heap.size) gC;have X0:=@Aa (w2.drew.cell? (w,0)=some xv) eS;have X1:=@Aa (w2.drew.cell? (w1,0)=some (.int .u8 82)) cQ;have X2:=@Aa (w2.drew.cell? (w1,1)=nm) cQ;have X3:=@Aa (w2.drew.cell? (w1,2)=some (.slice A9 fs.length c9)) cQ;rw[<-hw2];clear hw2;have HC9:=Aa (HC.o w2.drew (Hw.o.trans (Hb2.o.mono Hw.o.size)).drew);refine Qr [38,39,40,41,42,43,44,45,46,47,8,9,10]
  (fun ix v W=>match ix with|0=>v=.agg #[xv]|1=>v=(123::z:List UInt8)|2=>v=(z:List UInt8)|3=>v=(kb:List UInt8)|4=>v=.agg #[.int .u8 82,nm,.slice A9 fs.length c9]|5=>v=.int .i64 dd|_=>True)
  (fun L U W=>Jm (SrQ w2.drew (Ag xs) k q) (w2.drew) (L 6) (L 6) (L 7) (L 8) (L 9) (L 10) (L 11) (L 12) (U 6) (U 6) (U 7) (U 8) (U 9) (U 10) (U 11) (U 12) W) (⟨fun _=>rfl,fun h=>Bool.noConfusion h⟩) ?_ ?_
 ·repeat (first|exact Av.nil|(refine Av.cons ?_ ?_;rotate_left))
  all_goals
   rintro L U W hL hpre HR Hdep K hK;first|(simp[Region.binds]at hpre;done)|simp[Region.binds]at hpre|clear hpre
  ·have h6:L 6=false:=Bv Hdep.o 6 0 rfl hL;have hW:=HR.o.no h6;subst hW;have q0:=X0.o;exact lQ
  ·exact ir
  ·exact jr
  ·exact ir
  ·have h6:L 6=false:=Bv Hdep.o 6 4 rfl hL;have hW:=HR.o.no h6;subst hW;have q1:=X1.o;have q2:=X2.o;have q3:=X3.o;exact lQ
  ·exact ir
  ·have h7:L 7=false:=Bv Hdep.o 7 6 rfl hL;have h8:L 8=false:=Bv Hdep.o 8 6 rfl hL;have h9:L 9=false:=Bv Hdep.o 9 6 rfl hL;have h10:L 10=false:=Bv Hdep.o 10 7 rfl h7;have h11:L 11=false:=Bv Hdep.o 11 8 rfl h8;have h12:L 12=false:=Bv Hdep.o 12 9 rfl h9;have hW:=HR.o.no hL;subst hW;go_simp;refine HC9.o.mono ?_;rintro e w5 hp;obtain⟨vp,vr,vk,rfl,hq⟩:=hp.q;go_simp;exact hK _ _ _ Ac Ac (Jm.call2 h7 h8 h9 h10 h11 h12 hq) aI
  ·have l6:L 6=true:=aK;obtain⟨vp,vr,vk,um,g0,g1,g2⟩:=HR.o.get l6 l6;simp only[um];go_simp;exact hK _ _ _ Ac Ac g0 cp
  ·have l6:L 6=true:=aK;obtain⟨vp,vr,vk,um,g0,g1,g2⟩:=HR.o.get l6 l6;simp only[um];go_simp;exact hK _ _ _ Ac Ac g1 cp
  ·have l6:L 6=true:=aK;obtain⟨vp,vr,vk,um,g0,g1,g2⟩:=HR.o.get l6 l6;simp only[um];go_simp;exact hK _ _ _ Ac Ac g2 cp
  ·have l7:L 7=true:=aK;go_simp;exact hK (U 7) _ _ Ac Ac (HR.o.as0 l7) aI
  ·have l8:L 8=true:=aK;go_simp;exact hK (U 8) _ _ Ac Ac (HR.o.as1 l8) aI
  ·have l9:L 9=true:=aK;go_simp;exact hK (U 9) _ _ Ac Ac (HR.o.as2 l9) aI
 rintro L U W hL hφ hR;clear hφ;obtain⟨vp,vr,vk,hq,ua,ub,ue⟩:=hR.fin (hL 6 aJ) (hL 10 aJ) (hL 11 aJ) (hL 12 aJ);simp only[ua,ub,ue];clear hR hL ua ub ue;go_wp2_with fail;refine aE (v:=.tuple #[vp,vr,vk]) (by simp[results,results67,go_sem]) rfl ?_;exact hq.post Hb2.o.drew
theorem Qnm(S:List Ty)(k:Kd)(w0:World)(xv:Value)(hxv:xv.oneCell'=true)(kb:List UInt8)(hkl:kb.length<=100)(st:Int)(nm:ByteArray)(A:Option Addr)(n c:Nat)(b:Bool)(c0:UInt8)(z:List UInt8)(dd:Int)(w:World)(hw:Below w0 w0 w)(hz:z.length<=1000000)
  (hr:∀W,Below w0 w0 W->Calls prog 47 #[xv,kb] W fun e w'=>e=.returned (.tuple #[.agg #[.int .u8 st,.string nm,.slice A n c],.bool b])/\Below W W w')
  (hc:((st == 82)=true/\((c0.toNat:Int) == 123)=false/\(st == 69)=false/\(st == 85)=false)\/((st == 82)=false/\(st == 69)=true/\((c0.toNat:Int) == 35)=false/\(st == 85)=false)\/((st == 82)=false/\(st == 69)=false/\(st == 85)=true/\((c0.toNat:Int) == 60)=false)\/((st == 82)=false/\(st == 69)=false/\(st == 85)=false)):
  Calls prog 67 #[.agg #[xv],(c0::z:List UInt8),kb,.int .i64 dd] w (Bz S k none w):=by
 have Hr:=Aa hr;have Hw:=Aa hw;clear hr hw;have key:∀w1,Below (w.alloc (.cells #[xv] 35)).heap.size (w.alloc (.cells #[xv] 35)) w1->Below w w (w1.alloc (.cells #[.int .u8 st,.string nm,.slice A n c] 95)):=fun w1 hb=>by
  have h1:=((Aw w.heap.size w).alloc (Ar _) (.cells #[xv] 35)).trans (hb.mono aL);exact h1.alloc h1.size _
 have Hkey:=Aa key;clear key;rcases hc with⟨h1,h2,h3,h4⟩|⟨h1,h2,h3,h4⟩|⟨h1,h2,h3,h4⟩|⟨h1,h2,h3⟩;all_goals
  go_enter func67,ntmps67;go_wp2_with fail;refine(Hr.o _ (Hw.o.alloc Hw.o.size _)).mono ?_;rintro e w1 ⟨rfl,hb1⟩;have Hb2:=Aa (Hkey.o w1 hb1);clear hb1;go_wp2_with fail;refine aE (v:=.tuple #[.pointer none,(c0::z:List UInt8),.bool false]) (by simp[results,results67,go_sem]) rfl ?_;exact Bz.no rfl rfl Hb2.o
end
end Go.Proofs.YtkigmebejmmikaaGreatDoor
