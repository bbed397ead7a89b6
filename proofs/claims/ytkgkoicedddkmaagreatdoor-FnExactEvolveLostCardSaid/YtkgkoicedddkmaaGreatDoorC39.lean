/- Texts joined. Conditions: as each theorem names them. -/
import Derived.Test.YtkgkoicedddkmaaGreatDoorC38
set_option maxRecDepth 100000
set_option maxHeartbeats 32000000
set_option linter.unusedVariables false
set_option linter.unusedSimpArgs false
namespace Go.Proofs.YtkgkoicedddkmaaGreatDoor
open Go.RowKit Go.Proofs.Tryz
section
attribute [local go_sem] Qiz Qii Qib Qgw ByteArray.mk_append_mk
theorem Qin(w0:World)(xs:List (Ty × Value))(xv:Value)(hxv:xv.oneCell'=true)(hsc:Jq w0 xv xs)(k:Kd)(hk:Cw k)(hsg:k.signs=[])(hbs:k.base=[64])(nm:List UInt8)(fs:List Fd)(tv:Value)(hx:Dq xs k.name=some (⟨69,nm,fs⟩,tv))(hfs:Er w0 tv fs)(htg:∀f∈fs,f.tag<=200)
  (d:Nat) (hd:d<=1000) (z:List UInt8) (w:World) (hw:Below w0.heap.size w0 w) (hz:z.length<=1000000) (o:Option (Fd × List UInt8)) (ho:o=Fq fs z):
  Calls prog 68 #[.agg #[xv],.string ⟨(35::z:List UInt8).toArray⟩,.string ⟨(Bj k).toArray⟩,.int .i64 ((d+1:Nat):Int)] w (Bl (Af xs) k (enL o) w):=by
 have hkd:∀g,Cq (Af xs) k (.mk 69 [] g [])=.mk (Bj k) [69] [g] []:=Rh (Af xs) k
 generalize (((d+1:Nat):Int))=dd at *
 obtain⟨A9,c9,rfl,hl9,_⟩:=hfs
 have HFs:=Aa (show ∀W,Below w0.heap.size w0 W->Er W (.slice A9 fs.length c9) fs from fun W hW=>Er.below (show Er w0 (.slice A9 fs.length c9) fs from⟨A9,c9,rfl,hl9,by assumption⟩) hW)
 have Hr:=Aa (show ∀W,Below w0.heap.size w0 W->Calls prog 44 #[xv,.string ⟨(Bj k).toArray⟩] W fun e w'=>e=.returned (.tuple #[.agg #[.int .u8 69,.string ⟨nm.toArray⟩,.slice A9 fs.length c9],.bool true])/\Below W.heap.size W w' from fun W hW=>by
  have h:=Fu xv xs k W (hsc.below hW) hk
  rw[show Kz xs k=some (⟨69,nm,fs⟩,.slice A9 fs.length c9)from by unfold Kz;rw[if_pos ⟨hsg,hbs⟩];exact hx]at h
  exact h)
 have HT:=Aa (show ∀W,Below w0.heap.size w0 W->Calls prog 92 #[.agg #[xv],.string ⟨z.toArray⟩,.agg #[.int .u8 69,.string ⟨nm.toArray⟩,.slice A9 fs.length c9]] W (Mf (Fq fs z) z W)from fun W hW=>Vw xv (.int .u8 69) (.string ⟨nm.toArray⟩) _ hxv rfl rfl fs z W (HFs.o W hW) htg (by omega))
 have hkl:(Bj k).length<=100:=by have:=hk.2.2;omega
 have hzl:z.length<=1000000:=hz
 have Ho:=Aa ho
 rw[<-ho]at HT
 have Hw:=Aa hw
 have Hkd:=Aa hkd
 generalize Bj k=kb at *
 clear hw hx hsc htg ho
 go_enter func68,ntmps68
 go_wp2_with fail
 refine(Hr.o _ (Hw.o.alloc Hw.o.size _)).mono ?_
 rintro e w1 ⟨rfl,hb1⟩
 have hz1:=hb1.size
 simp only[World.size_alloc]at hz1
 have Hb1:=Aa (((Aq w.heap.size w).alloc (Ap _) _).trans (hb1.mono (by simp)))
 have X0:=Aa (show w1.cell? ⟨w.heap.size,0,none⟩=some xv from by rw[(By hb1).1 _ _ (by simp)];go_simp)
 clear hb1
 go_upto_region 5 with fail
 obtain⟨w2,hw2⟩:∃w2,w2=w1.alloc (.cells #[.int .u8 69,.string ⟨nm.toArray⟩,.slice A9 fs.length c9] 100):=⟨_,rfl⟩
 have Hb2:=Aa (show Below w.heap.size w w2 from by rw[hw2];exact Hb1.o.alloc Hb1.o.size _)
 have Hl0:=Aa (show w.heap.size<w2.drew.heap.size from by rw[hw2];simp;omega)
 have Hl1:=Aa (show w1.heap.size<w2.drew.heap.size from by rw[hw2];simp)
 have X0:=Aa (show w2.drew.cell? ⟨w.heap.size,0,none⟩=some xv from by rw[hw2,World.cell?_drew];exact Ez (by omega) X0.o)
 have X1:=Aa (show w2.drew.cell? ⟨w1.heap.size,0,none⟩=some (.int .u8 69)from by rw[hw2];go_simp)
 have X2:=Aa (show w2.drew.cell? ⟨w1.heap.size,1,none⟩=some (.string ⟨nm.toArray⟩)from by rw[hw2];go_simp)
 have X3:=Aa (show w2.drew.cell? ⟨w1.heap.size,2,none⟩=some (.slice A9 fs.length c9)from by rw[hw2];go_simp)
 have HC:=Aa (show ∀W,Below w2.drew.heap.size w2.drew W->Calls prog 92 #[.agg #[xv],.string ⟨z.toArray⟩,.agg #[.int .u8 69,.string ⟨nm.toArray⟩,.slice A9 fs.length c9]] W (Mf o z W)from fun W hW=>HT.o W ((Hw.o.trans (Hb2.o.mono Hw.o.size)).trans ((Aq _ _).drew.trans (hW.mono (by simp)) |>.mono (Nat.le_trans Hw.o.size Hb2.o.size))))
 rw[<-hw2]
 clear hw2
 refine Ge [58,59,60,61,62,57,63,64,65,13,999,14,15]
  (fun ix v W=>match ix with|0=>v=.agg #[xv]|1=>v=.string ⟨(35::z:List UInt8).toArray⟩|2=>v=.string ⟨(z:List UInt8).toArray⟩|3=>v=.agg #[.int .u8 69,.string ⟨nm.toArray⟩,.slice A9 fs.length c9]|_=>True)
  (fun L U W=>Gn w2.drew o z (L 4) (L 5) (L 6) (L 7) (L 8) (L 9) (L 10) (L 11) (L 12) (U 4) (U 5) (U 6) (U 7) (U 8) (U 9) (U 11) (U 12) W) (Gn.start) ?_ ?_
 ·repeat (first|exact Ah.nil|(refine Ah.cons ?_ ?_;rotate_left))
  all_goals
   rintro L U W hL hpre HR Hdep K hK
   have q0:=(HR.o.be.cell (p:=⟨w.heap.size,0,none⟩) Hl0.o).trans X0.o
   have q1:=(HR.o.be.cell (p:=⟨w1.heap.size,0,none⟩) Hl1.o).trans X1.o
   have q2:=(HR.o.be.cell (p:=⟨w1.heap.size,1,none⟩) Hl1.o).trans X2.o
   have q3:=(HR.o.be.cell (p:=⟨w1.heap.size,2,none⟩) Hl1.o).trans X3.o
   first|(simp[Region.binds]at hpre;done)|simp[Region.binds]at hpre|clear hpre
  iterate 2
   ·go_simp
    exact kE hK HR.o
  ·go_simp
   rw[if_pos (by omega)]
   go_simp
   exact hK (.string ⟨(z:List UInt8).toArray⟩) _ _ rfl Ac HR.o (by simp[Act.put,hpre])
  ·go_simp
   exact kE hK HR.o
  ·have h5:L 5=false:=Ax Hdep.o 5 4 rfl hL
   have h6:L 6=false:=Ax Hdep.o 6 5 rfl h5
   have h7:L 7=false:=Ax Hdep.o 7 5 rfl h5
   have h8:L 8=false:=Ax Hdep.o 8 5 rfl h5
   have h10:L 10=false:=Ax Hdep.o 10 6 rfl h6
   have h11:L 11=false:=Ax Hdep.o 11 7 rfl h7
   have h12:L 12=false:=Ax Hdep.o 12 8 rfl h8
   go_simp
   refine(HC.o _ HR.o.be).mono ?_
   rintro e w5 hp
   obtain⟨n,a,b,c,r,rfl,hF,hb⟩:=hp.q
   go_simp
   exact hK _ _ _ Ac Ac (HR.o.call h5 h6 h7 h8 h10 h11 h12 hF hb) (by simp[Act.put,hpre])
  ·have l4:L 4=true:=by first|exact hpre|exact hpre.1|exact hpre.2|exact hpre.2.1|exact hpre.1.1|exact hpre.2.2.1
   go_simp
   exact hK (U 4) _ _ Ac Ac (HR.o.move l4) (by simp[Act.put,hpre])
  ·have l5:L 5=true:=by first|exact hpre|exact hpre.1|exact hpre.2|exact hpre.2.1|exact hpre.1.1|exact hpre.2.2.1
   have l4:L 4=true:=Jx (Ax Hdep.o 5 4 rfl) l5
   obtain⟨n,a,b,c,r,u5,g0,g1,g2⟩:=HR.o.get l4 l5 (fun h=>Ax Hdep.o 10 6 rfl h)
   simp only[u5]
   go_simp
   exact hK _ _ _ Ac Ac (g0 hL) (by simp[Act.put,hpre,u5])
  ·have l5:L 5=true:=by first|exact hpre|exact hpre.1|exact hpre.2|exact hpre.2.1|exact hpre.1.1|exact hpre.2.2.1
   have l4:L 4=true:=Jx (Ax Hdep.o 5 4 rfl) l5
   obtain⟨n,a,b,c,r,u5,g0,g1,g2⟩:=HR.o.get l4 l5 (fun h=>Ax Hdep.o 10 6 rfl h)
   simp only[u5]
   go_simp
   exact hK _ _ _ Ac Ac (g1) (by simp[Act.put,hpre,u5])
  ·have l5:L 5=true:=by first|exact hpre|exact hpre.1|exact hpre.2|exact hpre.2.1|exact hpre.1.1|exact hpre.2.2.1
   have l4:L 4=true:=Jx (Ax Hdep.o 5 4 rfl) l5
   obtain⟨n,a,b,c,r,u5,g0,g1,g2⟩:=HR.o.get l4 l5 (fun h=>Ax Hdep.o 10 6 rfl h)
   simp only[u5]
   go_simp
   exact hK _ _ _ Ac Ac (g2) (by simp[Act.put,hpre,u5])
  ·have h10:L 10=false:=Ax Hdep.o 10 9 rfl hL
   go_simp
   exact hK (.pointer (some ⟨W.heap.size,0,none⟩)) _ _ Ac Ac (HR.o.alloc h10 _) (by simp[Act.put,hpre])
  ·have l9:L 9=true:=by first|exact hpre|exact hpre.1|exact hpre.2|exact hpre.2.1|exact hpre.1.1|exact hpre.2.2.1
   have l6:L 6=true:=by first|exact hpre|exact hpre.1|exact hpre.2|exact hpre.2.1|exact hpre.1.1|exact hpre.2.2.1
   have l5:L 5=true:=Jx (Ax Hdep.o 6 5 rfl) l6
   have l4:L 4=true:=Jx (Ax Hdep.o 5 4 rfl) l5
   obtain⟨n,a,b,c,r,_,_,_,k6,_⟩:=HR.o.yes l4
   obtain⟨B,k9,_⟩:=HR.o.al l9
   have u6:=k6 l6
   obtain⟨g1,g2⟩:=HR.o.store l9 u6 k9
   rw[if_pos (by rfl)]
   refine wp_store_mid 104 _ _ rfl B 0 ([.int .i64 (n:Int),.string ⟨a.toArray⟩,.string ⟨b.toArray⟩,.string ⟨c.toArray⟩]:List Value).toArray k9 u6 g1 (by kernel_rfl) (by simp[Value.oneCell']) ?_
   exact hK undef _ _ Ac Ac g2 rfl
  ·have l7:L 7=true:=by first|exact hpre|exact hpre.1|exact hpre.2|exact hpre.2.1|exact hpre.1.1|exact hpre.2.2.1
   go_simp
   exact hK (U 7) _ _ Ac Ac (HR.o.as1 l7) (by simp[Act.put,hpre])
  ·have l8:L 8=true:=by first|exact hpre|exact hpre.1|exact hpre.2|exact hpre.2.1|exact hpre.1.1|exact hpre.2.2.1
   go_simp
   exact hK (U 8) _ _ Ac Ac (HR.o.as2 l8) (by simp[Act.put,hpre])
 rintro L U W hL hφ hR
 clear hφ
 obtain⟨n,a,b,c,r,B,hF,u9,u11,u12,hB1,hB2,hrg,hbe⟩:=hR.fin (hL 4 (by decide)) (hL 6 (by decide)) (hL 9 (by decide)) (hL 10 (by decide)) (hL 11 (by decide)) (hL 12 (by decide))
 simp only[u9,u11,u12]
 clear hR hL u9 u11 u12
 have y0:W.cell? ⟨B,0,none⟩=some (.int .i64 (n:Int)):=by simpa using Ab hrg 0 rfl
 have HF:=Aa hF
 have HB:=Aa (show Below w.heap.size w W from Hb2.o.trans (((Aq _ _).drew.trans (hbe.mono (by simp))).mono Hb2.o.size))
 clear hbe hrg hF
 go_wp2_with fail
 refine bodyPost_ret (v:=.tuple #[.pointer (some ⟨W.heap.size+1,0,none⟩),.string ⟨r.toArray⟩,.bool o.isSome]) (by simp[results,results68,go_sem]) rfl ?_
 have hbf:=(HB.o.alloc HB.o.size (.cells #[.int .i64 (n:Int)] 3)).alloc (by simp;have:=HB.o.size;omega) (.cells #[.string ⟨kb.toArray⟩,.string ⟨#[69]⟩,.slice (some ⟨W.heap.size,0,none⟩) 1 1,.slice none 0 0] 97)
 cases o with
 |none=>exact Bl.no rfl rfl hbf
 |some y=>
  obtain⟨f,q⟩:=y
  obtain⟨rfl,_,_,_,rfl⟩:=HF.o.2.2 f q rfl
  refine⟨⟨W.heap.size+1,rfl,?_⟩,hbf⟩
  have hsz:=HB.o.size
  rw[Hkd.o]
  refine .mk kb [69] [f.tag] (some ⟨W.heap.size,0,none⟩) none 1 0 [] rfl (by simp) (by show w.heap.size<=W.heap.size+1;omega) (by go_simp) (by go_simp) (by go_simp) (by go_simp) ⟨rfl,by simp[maxLen],fun _=>⟨W.heap.size,0,rfl,by simp;omega,fun j u hu=>?_⟩⟩ ⟨rfl,Nat.zero_le _,fun h=>absurd h (by simp)⟩ (by simp) (by simp) (fun g o _ e=>?_) (fun _ _ h=>absurd h (by simp)) (fun x hx=>?_)
  ·match j,hu with
   |0,hu=>
    simp[Ec]at hu
    subst hu
    go_simp
   |j+1,hu=>simp[Ec]at hu
  ·injection e with e;injection e with e;subst e;exact hsz
  simp at hx
theorem Qip(w0:World)(xs:List (Ty × Value))(xv:Value)(hxv:xv.oneCell'=true)(hsc:Jq w0 xv xs)(k:Kd)(hk:Cw k)(hsg:k.signs=[])(hbs:k.base=[64])(nm:List UInt8)(fs:List Fd)(tv:Value)(hx:Dq xs k.name=some (⟨85,nm,fs⟩,tv))(hfs:Er w0 tv fs)(htg:∀f∈fs,f.tag<=200)
  (d:Nat) (hd:d<=1000) (z:List UInt8) (w:World) (hw:Below w0.heap.size w0 w) (hz:z.length<=1000000) (o:Option (Fd × List UInt8)) (ho:o=Fq fs z) (H:∀k',Cw k'->SrC w0 (Af xs) xv k' d) (hfd:∀f∈fs,Cw f.kind) (htf:Bp (Af xs) k.name=some ⟨85,nm,fs⟩)
  (R:Kd->List UInt8->Option (Vl × List UInt8)) (hR0:R=An (Af xs) 20 d):
  Calls prog 68 #[.agg #[xv],.string ⟨(60::z:List UInt8).toArray⟩,.string ⟨(Bj k).toArray⟩,.int .i64 ((d+1:Nat):Int)] w (Bl (Af xs) k (unL R o) w):=by
 have hkd:∀f v,Au fs f.tag=some f->Cq (Af xs) k (.mk 85 [] f.tag [v])=.mk (Bj k) [85] [f.tag] [Cq (Af xs) f.kind v]:=fun f v hf=>by rw[Qw,Fs htf hf]
 have HRd:=Aa (show ∀k',Cw k'->∀(s:List UInt8) (W:World),Below w0.heap.size w0 W->s.length<=1000000->Calls prog 43 #[.agg #[xv],.string ⟨s.toArray⟩,.string ⟨(Bj k').toArray⟩,.int .i64 (d:Int)] W (Bl (Af xs) k' (R k' s) W)from fun k' hk' s W hW hs=>by rw[hR0];exact H k' hk' s W hW hs)
 have HFd:=Aa (show ∀f r,o=some (f,r)->Cw f.kind/\(Bj f.kind).length<=100/\Au fs f.tag=some f from fun f r h=>by
  obtain⟨_,h2,_⟩:=H4 (ho ▸ h)
  have:=hfd f (Qs h2).1
  exact⟨this,by have:=this.2.2;omega,h2⟩)
 clear H hR0 hfd htf
 have d1:(((d+1:Nat):Int)) - 1=(d:Int):=by omega
 have d4:(0:Int)<=(d:Int):=by omega
 have d5:(d:Int)<=1000:=by omega
 have hwd:IntKind.i64.wrap (d:Int)=(d:Int):=IntWalk.i64_in _ (by omega)
 generalize (((d+1:Nat):Int))=dd at *
 obtain⟨A9,c9,rfl,hl9,_⟩:=hfs
 have HFs:=Aa (show ∀W,Below w0.heap.size w0 W->Er W (.slice A9 fs.length c9) fs from fun W hW=>Er.below (show Er w0 (.slice A9 fs.length c9) fs from⟨A9,c9,rfl,hl9,by assumption⟩) hW)
 have Hr:=Aa (show ∀W,Below w0.heap.size w0 W->Calls prog 44 #[xv,.string ⟨(Bj k).toArray⟩] W fun e w'=>e=.returned (.tuple #[.agg #[.int .u8 85,.string ⟨nm.toArray⟩,.slice A9 fs.length c9],.bool true])/\Below W.heap.size W w' from fun W hW=>by
  have h:=Fu xv xs k W (hsc.below hW) hk
  rw[show Kz xs k=some (⟨85,nm,fs⟩,.slice A9 fs.length c9)from by unfold Kz;rw[if_pos ⟨hsg,hbs⟩];exact hx]at h
  exact h)
 have HT:=Aa (show ∀W,Below w0.heap.size w0 W->Calls prog 92 #[.agg #[xv],.string ⟨z.toArray⟩,.agg #[.int .u8 85,.string ⟨nm.toArray⟩,.slice A9 fs.length c9]] W (Mf (Fq fs z) z W)from fun W hW=>Vw xv (.int .u8 85) (.string ⟨nm.toArray⟩) _ hxv rfl rfl fs z W (HFs.o W hW) htg (by omega))
 have hkl:(Bj k).length<=100:=by have:=hk.2.2;omega
 have hzl:z.length<=1000000:=hz
 have Ho:=Aa ho
 rw[<-ho]at HT
 have Hw:=Aa hw
 have Hkd:=Aa hkd
 generalize Bj k=kb at *
 clear hw hx hsc htg ho
 go_enter func68,ntmps68
 go_wp2_with fail
 refine(Hr.o _ (Hw.o.alloc Hw.o.size _)).mono ?_
 rintro e w1 ⟨rfl,hb1⟩
 have hz1:=hb1.size
 simp only[World.size_alloc]at hz1
 have Hb1:=Aa (((Aq w.heap.size w).alloc (Ap _) _).trans (hb1.mono (by simp)))
 have X0:=Aa (show w1.cell? ⟨w.heap.size,0,none⟩=some xv from by rw[(By hb1).1 _ _ (by simp)];go_simp)
 clear hb1
 go_upto_region 8 with fail
 obtain⟨w2,hw2⟩:∃w2,w2=w1.alloc (.cells #[.int .u8 85,.string ⟨nm.toArray⟩,.slice A9 fs.length c9] 100):=⟨_,rfl⟩
 have Hb2:=Aa (show Below w.heap.size w w2 from by rw[hw2];exact Hb1.o.alloc Hb1.o.size _)
 have Hl0:=Aa (show w.heap.size<w2.drew.heap.size from by rw[hw2];simp;omega)
 have Hl1:=Aa (show w1.heap.size<w2.drew.heap.size from by rw[hw2];simp)
 have X0:=Aa (show w2.drew.cell? ⟨w.heap.size,0,none⟩=some xv from by rw[hw2,World.cell?_drew];exact Ez (by omega) X0.o)
 have X1:=Aa (show w2.drew.cell? ⟨w1.heap.size,0,none⟩=some (.int .u8 85)from by rw[hw2];go_simp)
 have X2:=Aa (show w2.drew.cell? ⟨w1.heap.size,1,none⟩=some (.string ⟨nm.toArray⟩)from by rw[hw2];go_simp)
 have X3:=Aa (show w2.drew.cell? ⟨w1.heap.size,2,none⟩=some (.slice A9 fs.length c9)from by rw[hw2];go_simp)
 have HC:=Aa (show ∀W,Below w2.drew.heap.size w2.drew W->Calls prog 92 #[.agg #[xv],.string ⟨z.toArray⟩,.agg #[.int .u8 85,.string ⟨nm.toArray⟩,.slice A9 fs.length c9]] W (Mf o z W)from fun W hW=>HT.o W ((Hw.o.trans (Hb2.o.mono Hw.o.size)).trans ((Aq _ _).drew.trans (hW.mono (by simp)) |>.mono (Nat.le_trans Hw.o.size Hb2.o.size))))
 rw[<-hw2]
 clear hw2
 refine Ge [84,85,86,87,88,83,89,90,91,16,999,17,18]
  (fun ix v W=>match ix with|0=>v=.agg #[xv]|1=>v=.string ⟨(60::z:List UInt8).toArray⟩|2=>v=.string ⟨(z:List UInt8).toArray⟩|3=>v=.agg #[.int .u8 85,.string ⟨nm.toArray⟩,.slice A9 fs.length c9]|_=>True)
  (fun L U W=>Gn w2.drew o z (L 4) (L 5) (L 6) (L 7) (L 8) (L 9) (L 10) (L 11) (L 12) (U 4) (U 5) (U 6) (U 7) (U 8) (U 9) (U 11) (U 12) W) (Gn.start) ?_ ?_
 ·repeat (first|exact Ah.nil|(refine Ah.cons ?_ ?_;rotate_left))
  all_goals
   rintro L U W hL hpre HR Hdep K hK
   have q0:=(HR.o.be.cell (p:=⟨w.heap.size,0,none⟩) Hl0.o).trans X0.o
   have q1:=(HR.o.be.cell (p:=⟨w1.heap.size,0,none⟩) Hl1.o).trans X1.o
   have q2:=(HR.o.be.cell (p:=⟨w1.heap.size,1,none⟩) Hl1.o).trans X2.o
   have q3:=(HR.o.be.cell (p:=⟨w1.heap.size,2,none⟩) Hl1.o).trans X3.o
   first|(simp[Region.binds]at hpre;done)|simp[Region.binds]at hpre|clear hpre
  iterate 2
   ·go_simp
    exact kE hK HR.o
  ·go_simp
   rw[if_pos (by omega)]
   go_simp
   exact hK (.string ⟨(z:List UInt8).toArray⟩) _ _ rfl Ac HR.o (by simp[Act.put,hpre])
  ·go_simp
   exact kE hK HR.o
  ·have h5:L 5=false:=Ax Hdep.o 5 4 rfl hL
   have h6:L 6=false:=Ax Hdep.o 6 5 rfl h5
   have h7:L 7=false:=Ax Hdep.o 7 5 rfl h5
   have h8:L 8=false:=Ax Hdep.o 8 5 rfl h5
   have h10:L 10=false:=Ax Hdep.o 10 6 rfl h6
   have h11:L 11=false:=Ax Hdep.o 11 7 rfl h7
   have h12:L 12=false:=Ax Hdep.o 12 8 rfl h8
   go_simp
   refine(HC.o _ HR.o.be).mono ?_
   rintro e w5 hp
   obtain⟨n,a,b,c,r,rfl,hF,hb⟩:=hp.q
   go_simp
   exact hK _ _ _ Ac Ac (HR.o.call h5 h6 h7 h8 h10 h11 h12 hF hb) (by simp[Act.put,hpre])
  ·have l4:L 4=true:=by first|exact hpre|exact hpre.1|exact hpre.2|exact hpre.2.1|exact hpre.1.1|exact hpre.2.2.1
   go_simp
   exact hK (U 4) _ _ Ac Ac (HR.o.move l4) (by simp[Act.put,hpre])
  ·have l5:L 5=true:=by first|exact hpre|exact hpre.1|exact hpre.2|exact hpre.2.1|exact hpre.1.1|exact hpre.2.2.1
   have l4:L 4=true:=Jx (Ax Hdep.o 5 4 rfl) l5
   obtain⟨n,a,b,c,r,u5,g0,g1,g2⟩:=HR.o.get l4 l5 (fun h=>Ax Hdep.o 10 6 rfl h)
   simp only[u5]
   go_simp
   exact hK _ _ _ Ac Ac (g0 hL) (by simp[Act.put,hpre,u5])
  ·have l5:L 5=true:=by first|exact hpre|exact hpre.1|exact hpre.2|exact hpre.2.1|exact hpre.1.1|exact hpre.2.2.1
   have l4:L 4=true:=Jx (Ax Hdep.o 5 4 rfl) l5
   obtain⟨n,a,b,c,r,u5,g0,g1,g2⟩:=HR.o.get l4 l5 (fun h=>Ax Hdep.o 10 6 rfl h)
   simp only[u5]
   go_simp
   exact hK _ _ _ Ac Ac (g1) (by simp[Act.put,hpre,u5])
  ·have l5:L 5=true:=by first|exact hpre|exact hpre.1|exact hpre.2|exact hpre.2.1|exact hpre.1.1|exact hpre.2.2.1
   have l4:L 4=true:=Jx (Ax Hdep.o 5 4 rfl) l5
   obtain⟨n,a,b,c,r,u5,g0,g1,g2⟩:=HR.o.get l4 l5 (fun h=>Ax Hdep.o 10 6 rfl h)
   simp only[u5]
   go_simp
   exact hK _ _ _ Ac Ac (g2) (by simp[Act.put,hpre,u5])
  ·have h10:L 10=false:=Ax Hdep.o 10 9 rfl hL
   go_simp
   exact hK (.pointer (some ⟨W.heap.size,0,none⟩)) _ _ Ac Ac (HR.o.alloc h10 _) (by simp[Act.put,hpre])
  ·have l9:L 9=true:=by first|exact hpre|exact hpre.1|exact hpre.2|exact hpre.2.1|exact hpre.1.1|exact hpre.2.2.1
   have l6:L 6=true:=by first|exact hpre|exact hpre.1|exact hpre.2|exact hpre.2.1|exact hpre.1.1|exact hpre.2.2.1
   have l5:L 5=true:=Jx (Ax Hdep.o 6 5 rfl) l6
   have l4:L 4=true:=Jx (Ax Hdep.o 5 4 rfl) l5
   obtain⟨n,a,b,c,r,_,_,_,k6,_⟩:=HR.o.yes l4
   obtain⟨B,k9,_⟩:=HR.o.al l9
   have u6:=k6 l6
   obtain⟨g1,g2⟩:=HR.o.store l9 u6 k9
   rw[if_pos (by rfl)]
   refine wp_store_mid 104 _ _ rfl B 0 ([.int .i64 (n:Int),.string ⟨a.toArray⟩,.string ⟨b.toArray⟩,.string ⟨c.toArray⟩]:List Value).toArray k9 u6 g1 (by kernel_rfl) (by simp[Value.oneCell']) ?_
   exact hK undef _ _ Ac Ac g2 rfl
  ·have l7:L 7=true:=by first|exact hpre|exact hpre.1|exact hpre.2|exact hpre.2.1|exact hpre.1.1|exact hpre.2.2.1
   go_simp
   exact hK (U 7) _ _ Ac Ac (HR.o.as1 l7) (by simp[Act.put,hpre])
  ·have l8:L 8=true:=by first|exact hpre|exact hpre.1|exact hpre.2|exact hpre.2.1|exact hpre.1.1|exact hpre.2.2.1
   go_simp
   exact hK (U 8) _ _ Ac Ac (HR.o.as2 l8) (by simp[Act.put,hpre])
 rintro L U W hL hφ hR
 clear hφ
 obtain⟨n,a,b,c,r,B,hF,u9,u11,u12,hB1,hB2,hrg,hbe⟩:=hR.fin (hL 4 (by decide)) (hL 6 (by decide)) (hL 9 (by decide)) (hL 10 (by decide)) (hL 11 (by decide)) (hL 12 (by decide))
 simp only[u9,u11,u12]
 clear hR hL u9 u11 u12
 have HF:=Aa hF
 have HB:=Aa (show Below w.heap.size w W from Hb2.o.trans (((Aq _ _).drew.trans (hbe.mono (by simp))).mono Hb2.o.size))
 have hl0:w.heap.size<W.heap.size:=by have:=Hl0.o;have:=hbe.size;omega
 have q0:W.cell? ⟨w.heap.size,0,none⟩=some xv:=(hbe.cell (p:=⟨w.heap.size,0,none⟩) Hl0.o).trans X0.o
 have hBw:w.heap.size<=B:=by have:=Hl0.o;omega
 clear hbe hF
 cases o with
 |none=>
  simp only[Option.isSome_none]
  clear hrg
  go_wp2_with fail
  refine bodyPost_ret (v:=.tuple #[.pointer none,.string ⟨(60::z:List UInt8).toArray⟩,.bool false]) (by simp[results,results68,go_sem]) rfl ?_
  exact Bl.no rfl rfl HB.o
 |some y=>
  obtain⟨f,q⟩:=y
  obtain⟨rfl,rfl,rfl,rfl,rfl⟩:=HF.o.2.2 f q rfl
  simp only[Option.isSome_some]
  have hrl:=HF.o.1
  obtain⟨hkf,hkfl,hft⟩:=HFd.o f r rfl
  have y0:W.cell? ⟨B,0,none⟩=some (.int .i64 (f.tag:Int)):=by simpa using Ab hrg 0 rfl
  have y2:W.cell? ⟨B,2,none⟩=some (.string ⟨(Bj f.kind).toArray⟩):=by simpa using Ab hrg 2 rfl
  have HRd:=Aa (fun(s:List UInt8) (W:World) h1 h2=>HRd.o f.kind hkf s W h1 h2)
  have Hft:=Aa hft
  generalize hkb2:Bj f.kind=kf at *
  clear hrg hkf hft
  cases r with
  |nil=>
   go_wp2_with fail
   refine bodyPost_ret (v:=.tuple #[.pointer none,.string ⟨(60::z:List UInt8).toArray⟩,.bool false]) (by simp[results,results68,go_sem]) rfl ?_
   exact Bl.no rfl rfl HB.o
  |cons c9 q1=>
   by_cases h61:c9=61
   ·subst h61
    have HU:=Aa (show unL R (some (f,61::q1))=match R f.kind q1 with|none=>none|some (v,q)=>(match Ar 62 q with|some z'=>some (.mk 85 [] f.tag [v],z')|none=>none)from by simp only[unL,Bq];rfl)
    have t61:((((61:UInt8).toNat:Nat):Int) != 61)=false:=rfl
    have HW9:=Aa (show Below w0.heap.size w0 W.drew from(Hw.o.trans (HB.o.mono Hw.o.size)).drew)
    have hq1:q1.length<=1000000:=by simp at hrl;omega
    have HCR:=Aa (HRd.o q1 W.drew HW9.o hq1)
    generalize R f.kind q1=oq at *
    simp only[List.length_cons]at hrl
    go_wp2_with fail
    refine Bi [105,106,107,108,109,110,111,112,104,113,114,115,19,20,21] (by kernel_rfl) (by kernel_rfl) (by kernel_rfl) (fun u=>by dsimp only[Qbm,Bm,List.set,Nat.zero_add,Nat.reduceAdd])
     (fun ix v W5=>match ix with|0=>v=.agg #[xv]|1=>v=.string ⟨(61::q1:List UInt8).toArray⟩|2=>v=.string ⟨(q1:List UInt8).toArray⟩|3=>v=.pointer (some ⟨B,2,none⟩)|4=>v=.string ⟨(kf:List UInt8).toArray⟩|5=>v=.int .i64 dd|6=>v=.int .i64 (d:Int)|_=>True)
     (fun L U W5=>Gh (SrQ W.drew (Af xs) f.kind oq) (W.drew) (L 7) (L 8) (L 9) (L 10) (L 11) (L 12) (L 13) (L 14) (U 7) (U 8) (U 9) (U 10) (U 11) (U 12) (U 13) (U 14) W5) (fun _ _=>True) (fun _ _ _ _ _ h=>h) (⟨fun _=>rfl,fun h=>Bool.noConfusion h⟩) ?_ ?_
    ·repeat (first|exact Ah.nil|(refine Ah.cons ?_ ?_;rotate_left))
     all_goals
      rintro L U W5 hL hpre hR hun hdep K hK
      have HR:=Aa hR
      have Hdep:=Aa hdep
      clear hun hdep hR
      first|(simp[Region.binds]at hpre;done)|simp[Region.binds]at hpre|clear hpre
     ·have h7:L 7=false:=Ax Hdep.o 7 0 rfl hL
      have hW:=HR.o.no h7
      subst hW
      go_simp
      exact kE hK HR.o
     ·go_simp
      exact kE hK HR.o
     ·go_simp
      rw[if_pos (by omega)]
      go_simp
      exact hK (.string ⟨q1.toArray⟩) _ _ rfl Ac HR.o (by simp[Act.put,hpre])
     ·go_simp
      exact kE hK HR.o
     ·have h7:L 7=false:=Ax Hdep.o 7 4 rfl hL
      have hW:=HR.o.no h7
      subst hW
      go_simp
      exact kE hK HR.o
     ·go_simp
      exact kE hK HR.o
     ·go_simp
      exact hK (.int .i64 (d:Int)) _ _ rfl Ac HR.o (by simp[Act.put,hpre,hwd])
     ·have h8:L 8=false:=Ax Hdep.o 8 7 rfl hL
      have h9:L 9=false:=Ax Hdep.o 9 8 rfl h8
      have h10:L 10=false:=Ax Hdep.o 10 8 rfl h8
      have h11:L 11=false:=Ax Hdep.o 11 8 rfl h8
      have h12:L 12=false:=Ax Hdep.o 12 9 rfl h9
      have h13:L 13=false:=Ax Hdep.o 13 10 rfl h10
      have h14:L 14=false:=Ax Hdep.o 14 11 rfl h11
      have hW:=HR.o.no hL
      subst hW
      go_simp
      refine HCR.o.mono ?_
      rintro e w5 hp
      obtain⟨vp,vr,vk,rfl,hq⟩:=hp.q
      go_simp
      exact hK _ _ _ Ac Ac (Gh.call h8 h9 h10 h11 h12 h13 h14 hq) (by simp[Act.put,hpre])
     ·have l7:L 7=true:=by first|exact hpre|exact hpre.1|exact hpre.2|exact hpre.2.1|exact hpre.1.1|exact hpre.2.2.1
      go_simp
      exact hK _ _ _ Ac Ac (HR.o.move l7) (by simp[Act.put,hpre])
     ·have l8:L 8=true:=by first|exact hpre|exact hpre.1|exact hpre.2|exact hpre.2.1|exact hpre.1.1|exact hpre.2.2.1
      have l7:L 7=true:=Jx (Ax Hdep.o 8 7 rfl) l8
      obtain⟨vp,vr,vk,um,g0,g1,g2⟩:=HR.o.get l7 l8
      simp only[um]
      go_simp
      exact hK _ _ _ Ac Ac g0 (by simp[Act.put,hpre,um])
     ·have l8:L 8=true:=by first|exact hpre|exact hpre.1|exact hpre.2|exact hpre.2.1|exact hpre.1.1|exact hpre.2.2.1
      have l7:L 7=true:=Jx (Ax Hdep.o 8 7 rfl) l8
      obtain⟨vp,vr,vk,um,g0,g1,g2⟩:=HR.o.get l7 l8
      simp only[um]
      go_simp
      exact hK _ _ _ Ac Ac g1 (by simp[Act.put,hpre,um])
     ·have l8:L 8=true:=by first|exact hpre|exact hpre.1|exact hpre.2|exact hpre.2.1|exact hpre.1.1|exact hpre.2.2.1
      have l7:L 7=true:=Jx (Ax Hdep.o 8 7 rfl) l8
      obtain⟨vp,vr,vk,um,g0,g1,g2⟩:=HR.o.get l7 l8
      simp only[um]
      go_simp
      exact hK _ _ _ Ac Ac g2 (by simp[Act.put,hpre,um])
     ·have l9:L 9=true:=by first|exact hpre|exact hpre.1|exact hpre.2|exact hpre.2.1|exact hpre.1.1|exact hpre.2.2.1
      go_simp
      exact hK (U 9) _ _ Ac Ac (HR.o.as0 l9) (by simp[Act.put,hpre])
     ·have l10:L 10=true:=by first|exact hpre|exact hpre.1|exact hpre.2|exact hpre.2.1|exact hpre.1.1|exact hpre.2.2.1
      go_simp
      exact hK (U 10) _ _ Ac Ac (HR.o.as1 l10) (by simp[Act.put,hpre])
     ·have l11:L 11=true:=by first|exact hpre|exact hpre.1|exact hpre.2|exact hpre.2.1|exact hpre.1.1|exact hpre.2.2.1
      go_simp
      exact hK (U 11) _ _ Ac Ac (HR.o.as2 l11) (by simp[Act.put,hpre])
    rintro L U W5 hL hφ hR
    clear hφ
    obtain⟨vp,vr,vk,hq,ua,ub,ue⟩:=hR.fin (hL 7 (by decide)) (hL 12 (by decide)) (hL 13 (by decide)) (hL 14 (by decide))
    simp only[ua,ub,ue]
    clear hR hL ua ub ue
    have HB5:=Aa (show Below w.heap.size w W5 from(HB.o.drew).trans (hq.1.mono (by simp;exact HB.o.size)))
    have y05:W5.cell? ⟨B,0,none⟩=some (.int .i64 (f.tag:Int)):=(hq.1.cell (p:=⟨B,0,none⟩) (by simpa using hB2)).trans y0
    have hz5:=hq.1.size
    simp only[World.size_drew]at hz5
    obtain⟨_,hm⟩:=hq
    cases oq with
    |none=>
     obtain⟨⟨q0,rfl⟩,⟨r0,rfl⟩,rfl⟩:=hm
     have HN:=Aa HU.o
     go_wp2_with fail
     refine bodyPost_ret (v:=.tuple #[.pointer none,.string ⟨(60::z:List UInt8).toArray⟩,.bool false]) (by simp[results,results68,go_sem]) rfl ?_
     exact Bl.no HN.o rfl HB5.o
    |some y=>
     obtain⟨v,r1⟩:=y
     obtain⟨⟨b5,rfl,hsv⟩,rfl,rfl⟩:=hm
     have Hsv:=Aa hsv
     clear hsv
     cases r1 with
     |nil=>
      have HN:=Aa HU.o
      go_wp2_with fail
      refine bodyPost_ret (v:=.tuple #[.pointer none,.string ⟨(60::z:List UInt8).toArray⟩,.bool false]) (by simp[results,results68,go_sem]) rfl ?_
      exact Bl.no HN.o rfl HB5.o
     |cons c8 z8=>
      by_cases h62:c8=62
      ·subst h62
       have HY:=Aa (show unL R (some (f,61::q1))=some (.mk 85 [] f.tag [v],z8)from by rw[HU.o];simp only[Bq])
       have t62:((((62:UInt8).toNat:Nat):Int) != 62)=false:=rfl
       go_wp2_with fail
       refine Ge [128,129,130,131,132,133,134,135,136,137,8,9,10]
        (fun ix v W=>match ix with|0=>v=.string ⟨(kb:List UInt8).toArray⟩|1=>v=.pointer (some ⟨B,0,none⟩)|2=>v=.int .i64 (f.tag:Int)|4=>v=.pointer (some ⟨b5,0,none⟩)|8=>v=.string ⟨(62::z8:List UInt8).toArray⟩|9=>v=.string ⟨(z8:List UInt8).toArray⟩|11=>v=.string ⟨(z8:List UInt8).toArray⟩|12=>v=.bool true|_=>True)
        (fun L U W=>Fh W5.drew kb f.tag b5 (L 3) (L 5) (L 6) (L 7) (L 10) (U 3) (U 5) (U 6) (U 7) (U 10) W) (Fh.start) ?_ ?_
       ·repeat (first|exact Ah.nil|(refine Ah.cons ?_ ?_;rotate_left))
        all_goals
         rintro L U W hL hpre HR Hdep K hK
         first|(simp[Region.binds]at hpre;done)|simp[Region.binds]at hpre|clear hpre
        iterate 2
         ·go_simp
          exact kE hK HR.o
        ·have y06:=(HR.o.be.cell (p:=⟨B,0,none⟩) (by simp;omega)).trans ((World.cell?_drew _ _).trans y05)
         go_simp
         exact kE hK HR.o
        ·have h6:L 6=false:=Ax Hdep.o 6 3 rfl hL
         have h7:L 7=false:=Ax Hdep.o 7 6 rfl h6
         go_simp
         exact hK _ _ _ Ac Ac (HR.o.put3 h6 h7 _) (by simp[Act.put,hpre])
        ·go_simp
         exact kE hK HR.o
        ·have h6:L 6=false:=Ax Hdep.o 6 5 rfl hL
         have h7:L 7=false:=Ax Hdep.o 7 6 rfl h6
         go_simp
         exact hK _ _ _ Ac Ac (HR.o.put5 h6 h7 _) (by simp[Act.put,hpre])
        ·have l3:=hpre.2.1
         have l5:=hpre.2.2
         obtain⟨B3,u3,_⟩:=HR.o.a3 l3
         obtain⟨B5,u5,_⟩:=HR.o.a5 l5
         simp only[u3,u5]
         go_simp
         exact hK (.agg #[.string ⟨kb.toArray⟩,.string ⟨#[85]⟩,.slice (some ⟨B3,0,none⟩) 1 1,.slice (some ⟨B5,0,none⟩) 1 1]) _ _ Ac Ac (HR.o.put6 l3 l5 (by simp[u3,u5])) (by simp[Act.put,hpre,u3,u5])
        ·have l6:L 6=true:=by first|exact hpre|exact hpre.1|exact hpre.2|exact hpre.2.1|exact hpre.1.1|exact hpre.2.2.1
         have u6:=(HR.o.a6 l6).2.2
         have h10:L 10=false:=Ax Hdep.o 10 7 rfl hL
         obtain⟨B3,u3,_⟩:=HR.o.a3 (HR.o.a6 l6).1
         obtain⟨B5,u5,_⟩:=HR.o.a5 (HR.o.a6 l6).2.1
         rw[u3,u5]at u6
         simp only[u6]
         go_simp
         exact hK _ _ _ Ac Ac (HR.o.put7 l6 h10 (by rw[u3,u5])) (by simp[Act.put,hpre,u6,u3,u5])
        ·go_simp
         exact kE hK HR.o
        ·go_simp
         rw[if_pos (by omega)]
         go_simp
         exact hK (.string ⟨z8.toArray⟩) _ _ rfl Ac HR.o (by simp[Act.put,hpre])
        ·go_simp
         exact hK _ _ _ Ac Ac HR.o.put10 (by simp[Act.put,hpre])
        iterate 2
         ·go_simp
          exact kE hK HR.o
       rintro L U W hL hφ hR
       obtain⟨B7,u10,hS⟩:=hR.fin (hL 7 (by decide)) (hL 10 (by decide)) (lo:=w.heap.size) (by simp;exact HB5.o.size) ((Hsv.o.mono (fun c hc _=>Nat.le_trans (by simp;exact HB.o.size) hc)).after (Aq _ _).drew)
       have u11:U 11=.string ⟨(z8:List UInt8).toArray⟩:=hφ 11 (by decide)
       have u12:U 12=.bool true:=hφ 12 (by decide)
       have hbe:=hR.be
       simp only[u10,u11,u12]
       clear hR hL hφ u10 u11 u12
       go_wp2_with fail
       refine bodyPost_ret (v:=.tuple #[.pointer (some ⟨B7,0,none⟩),.string ⟨z8.toArray⟩,.bool true]) (by simp[results,results68,go_sem]) rfl ?_
       rw[HY.o]
       refine⟨⟨B7,rfl,?_⟩,HB5.o.trans ((((Aq _ _).drew).trans (hbe.mono (by simp))).mono HB5.o.size)⟩
       rw[Hkd.o f v Hft.o]
       exact hS
      have t62:((c8.toNat:Int) != 62)=true:=by have:=Am h62;simpa using this
      have HN:=Aa (show unL R (some (f,61::q1))=none from by rw[HU.o];simp only[Di h62])
      clear h62
      go_wp2_with fail
      refine bodyPost_ret (v:=.tuple #[.pointer none,.string ⟨(60::z:List UInt8).toArray⟩,.bool false]) (by simp[results,results68,go_sem]) rfl ?_
      exact Bl.no HN.o rfl HB5.o
   have t61:((c9.toNat:Int) != 61)=true:=by have:=Am h61;simpa using this
   have HN:=Aa (show unL R (some (f,c9::q1))=none from by simp only[unL,Di h61])
   clear h61
   go_wp2_with fail
   refine bodyPost_ret (v:=.tuple #[.pointer none,.string ⟨(60::z:List UInt8).toArray⟩,.bool false]) (by simp[results,results68,go_sem]) rfl ?_
   exact Bl.no HN.o rfl HB.o
end
end Go.Proofs.YtkgkoicedddkmaaGreatDoor
