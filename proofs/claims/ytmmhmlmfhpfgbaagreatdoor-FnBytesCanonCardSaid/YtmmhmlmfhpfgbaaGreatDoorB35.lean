/- Texts joined. Conditions: as each theorem names them. -/
import Derived.Deep.CutRange
import Derived.Deep.DeepCutAuto
import Derived.Test.YtmmhmlmfhpfgbaaGreatDoorRows
import Derived.ProofKit
import Derived.OpenShut
import Derived.ShutString
import Derived.ChangeOld
import Derived.SliceStrings
import Derived.Test.YtmmhmlmfhpfgbaaGreatDoorB34
set_option maxRecDepth 100000
set_option maxHeartbeats 32000000
set_option linter.unusedVariables false
set_option linter.unusedSimpArgs false
namespace Go.Proofs.YtmmhmlmfhpfgbaaGreatDoor
open Go.RowKit Go.Proofs.Tryz
section
attribute [local go_sem] Qra Qpu Qo3 Qmi ByteArray.mk_append_mk
def Tz(xs:List (Ty × Value))(xv:Value)(k:Kd)(d:Int)(N B:Nat):Prop:=∀(g p:Nat) (W:World),Gj W xv xs->E4 W g p->p+B<=900000000 ->
 Calls prog 113 #[g,xv,.string ⟨(Be k).toArray⟩,.int .i64 d] W (Jt (Af xs) k N B W g p)
def DvF(S:List Ty)(k:Kd)(N B p:Nat)(sv:SV)(q:Nat):Prop:=∃v,sv=Bt S k v/\Ge S N k v/\(Aw v).length<=B/\q<=p+B
theorem Qaq(c:UInt8)(ps:List (List UInt8))(p:List UInt8):(Ax c (ps++[p])).length<=(Ax c ps).length+p.length+1:=by
 rw[Bs,Bs];unfold Du;rw[aA,List.sum_append];simp;omega
theorem Qha(xs:List (Ty × Value))(A0:Option Addr)(c0:Nat)(k:Kd)(sg:List UInt8)(hsg:k.signs=91::sg)(hk:Cw k)(d:Int)(hd:-1000<=d)(hd2:d<=1000)(N B:Nat)(H:0<d->Tz xs (.slice A0 xs.length c0) k.part (d - 1) N B)(hB:100<=B):Tz xs (.slice A0 xs.length c0) k d (N+1) (8*B+100):=by
 intro g p w hsc hR hp;have hgl:=hR.lt;have HR:=Aa hR;have HSc:=Aa hsc;have hkp:Be k=91::Be k.part:=dh;have hkl:(Be k).length<=100:=bR;have Hsv:=Aa (fun ks=>hkp ▸ P9 (Af xs) k ks);have Hok:=Aa (fun ks (hl:ks.length<=20) (h:∀x∈ks,Ge (Af xs) N k.part x)=>Ge.lst (S:=Af xs) hsg hl h);unfold Tz at H;rw[hkp]at hkl ⊢;generalize Be k.part=kp at *;have HC:=Aa H;have hkl2:kp.length<=100:=fj;obtain⟨xv,hxv⟩:∃xv:Value,xv=.slice A0 xs.length c0:=⟨_,rfl⟩
 rw[<-hxv]at HSc HC ⊢;clear hR hsc hkp hsg hkl hk H hxv;go_enter func113,ntmps113;go_wp2_with fail;obtain⟨W1,hW1⟩:∃W1,W1=w.alloc (.cells #[(91::kp:List UInt8),a6,.slice none 0 0,.slice none 0 0] 148):=⟨_,rfl⟩
 have hz1:W1.heap.size=w.heap.size+1:=cN;have HS1:=@Aa (Eg (w.heap.size+1) w.heap.size W1 (91::kp:List UInt8) a6 (.slice none 0 0) (.slice none 0 0) (.slice none 0 0) (.slice none 0 0) [] []) cF;have HR1:=Aa (show E4 W1 g p by rw[hW1];exact HR.o.dalloc _);have Hg1:=Aa (show w.grownBy W1 (some g)by rw[hW1];exact World.grownBy_alloc w _ _);rw[<-hW1];clear hW1;refine(Bn g p 4 _ HR1.o aI aI aI).mono ?_;rintro e w2 ⟨y,rfl,hy1,_,hR2,hg2⟩;have hy:y<=3:=aI;have HS2:=Aa (HS1.o.gr hg2 hgl);have HR2:=Aa hR2;have Hg2:=Aa (Ad Hg1.o hg2);clear hR2 hg2 hy1 HS1 HR1 Hg1;go_wp2_with fail;go_loopw [10] (fun m wr=>∃(x q:Nat) (A:Option Addr) (c:Nat) (xk:List (Nat × SV)),m=(x:Int)/\xk.length+x<=3/\q<=p+1+xk.length*B/\Hid (∃ks:List Vl,xk.map (·.2)=ks.map (Bt (Af xs) k.part)/\(∀v∈ks,Ge (Af xs) N k.part v)/\(Ax 44 (ks.map Aw)).length<=xk.length*(B+1))/\Hid (E4 wr g q)/\Hid (w.grownBy wr (some g))/\Hid (Eg (w.heap.size+1) w.heap.size wr (91::kp:List UInt8) a6 (.slice none 0 0) (.slice none 0 0) (.slice A xk.length c) (.slice A xk.length c) [] xk)) (fun m _=>(intOf m).toNat)
 case atStart=>exact⟨y,p+1,none,0,[],rfl,by simp;omega,by simp,⟨[],rfl,by simp,by simp[Ax]⟩,HR2.o,Hg2.o,HS2.o⟩
 case round=>
  obtain⟨x,q,A,c,xk,rfl,hxl,hq,hks,hRr,hgr,hSr⟩:=hrel;have hx0:(0:Int)<=(x:Int):=aI;have hzr:w.heap.size+1<=wr.heap.size:=hSr.o.bs;by_cases hgo:0<x/\0<d
  ·obtain⟨hx,hdp⟩:=hgo;have hxi:(0:Int)<(x:Int):=aI;have hqB:q+B<=900000000:=by
    have:xk.length*B<=2*B:=Nat.mul_le_mul_right _ aI;omega
   have HC2:=Aa (HC.o hdp);have hwd:IntKind.i64.wrap (d - 1)=d - 1:=IntWalk.i64_in _ aI;go_upto_region 16 with fail
   obtain⟨W9,hW9⟩:∃W9,W9=wr.drew:=⟨_,rfl⟩
   have HS9:=@Aa (Eg (w.heap.size+1) w.heap.size W9 (91::kp:List UInt8) a6 (.slice none 0 0) (.slice none 0 0) (.slice A xk.length c) (.slice A xk.length c) [] xk) (by rw[hW9];exact hSr.o.after (Aq _ _).drew);have HR9:=Aa (show E4 W9 g q by rw[hW9];exact hRr.o.ddrew);have Hg9:=Aa (show w.grownBy W9 (some g)by rw[hW9];exact Fu hgr.o);have HX9:=@Aa (Gj W9 xv xs) (HSc.o.grown HR.o Hg9.o);have HW9:=Aa hW9;clear hW9;have HC:=HC2;clear HC2;refine Xa [61,62,63,64,65,66,67,68,69,70,71,72,73,74,75,76,999]
    (fun ix v W=>match ix with|0=>v=w.heap.size|1=>v=w.heap.size|2=>v=w.heap.size|3=>v=(w,3)|4=>v=.slice A xk.length c|5=>v=g|6=>v=xv|7=>v=(91::kp:List UInt8)|8=>v=(kp:List UInt8)|9=>v=.int .i64 d|10=>v=.int .i64 (d - 1)|14=>v=w.heap.size|15=>v=(w,3)|_=>True)
    (fun L U W=>Mt w g (w.heap.size+1) w.heap.size W9 (91::kp:List UInt8) a6 (.slice none 0 0) A c [] xk (DvF (Af xs) k.part N B q) (L 11) (L 12) (L 13) (L 16) (U 11) (U 12) (U 13) W) (by rw[<-HW9.o];exact Mt.start) ?_ ?_
   ·repeat (first|exact Bb.nil|(refine Bb.cons ?_ ?_;rotate_left))
    all_goals
     rintro L U W hL hpre HR Hdep K hK;first|(simp[Region.binds]at hpre;done)|simp[Region.binds]at hpre|clear hpre
    iterate 4
     ·exact fP
    ·exact gD
    iterate 3
     ·exact fP
    ·exact gV
    iterate 2
     ·exact fP
    ·exact gj
    ·exact gq
    ·obtain⟨l4,u4⟩:L 4=true/\U 4=.slice A xk.length c:=by
      exact jn
     have l12:L 12=true:=bZ;have l11:L 11=true:=Sm (Ct Hdep.o 12 11 rfl) l12;have h16:L 16=false:=Ct Hdep.o 16 13 rfl hL;obtain⟨W8,b8,v8,q8,hW,u12,hF,hR8,hg8,hv8,hL8⟩:=HR.o.s2 l12 hL;subst hW;rw[if_pos dm];refine Ml W8 (.tmp 65) (.tmp 73) 146 rfl (w.heap.size+1) 76 (.pointer none) 1 8 underlying146 Rt rfl aL [b8] rfl bL (.slice A xk.length c) xk.length (Dr (xk.map (·.1))) u4 u12 hL8.row bc aI hL8.bs ?_;exact jy
    iterate 2
     ·exact fP
    ·exact gk
   rintro L U W hL hφ hR;clear hφ;obtain⟨b6,v6,q6,A6,c6,⟨v7,rfl,k1,k2,k3⟩,hR6,hg6,hS6⟩:=hR.s4 (hL 16 aL);obtain⟨ks,g1,g2,g3⟩:=hks.o;have el:(xk++[(b6,Bt (Af xs) k.part v7)]).length=xk.length+1:=aK
   have Hks:=Aa (show ∃ks:List Vl,(xk++[(b6,Bt (Af xs) k.part v7)]).map (·.2)=ks.map (Bt (Af xs) k.part)/\(∀v∈ks,Ge (Af xs) N k.part v)/\(Ax 44 (ks.map Aw)).length<=(xk++[(b6,Bt (Af xs) k.part v7)]).length*(B+1)from⟨ks++[v7],by simp[g1],fun v hv=>by rcases af.1 hv with h|h;exact g2 v h;rw[ar]at h;subst h;exact k1,by
    rw[aA,el,Nat.succ_mul];exact ad (Qaq 44 (ks.map Aw) (Aw v7)) aI⟩)
   have HR6:=Aa hR6;have Hg6:=Aa hg6;have HS6:=Aa hS6;have hq6:q6<=p+1+(xk.length+1)*B:=by rw[Nat.succ_mul];omega
   clear hR hL hR6 hg6 hS6 k1 k2 k3 g1 g2 g3;go_wp2_with fail;go_roundw
   case rel=>exact⟨x - 1,q6,A6,c6,xk++[(b6,Bt (Af xs) k.part v7)],by go_num,by rw[el];omega,by rw[el];exact hq6,Hks.o,HR6.o,Hg6.o,by rw[el];exact HS6.o⟩
   case measure=>simp[intOf];omega
  ·have hfin:∀W,W=wr->True:=fun _ _=>Ae
   have HQ:=Aa (show Jt (Af xs) k (N+1) (8*B+100) w g p (.returned w.heap.size) wr from by
    obtain⟨ks,g1,g2,g3⟩:=hks.o;have hkl:ks.length=xk.length:=by have:=congrArg List.length g1;simpa using this.symm
    have h3:xk.length*(B+1)<=3*(B+1):=Nat.mul_le_mul_right _ aI;have h4:xk.length*B<=3*B:=Nat.mul_le_mul_right _ aI;refine⟨w.heap.size,.mk 91 [] 0 ks,q,rfl,Hok.o ks aI g2,by rw[G6];simp;omega,by omega,?_,hRr.o,hgr.o⟩;have:=hSr.o.done aK aI;rw[Hsv.o,<-g1];exact this)
   have HQd:=Aa (show Jt (Af xs) k (N+1) (8*B+100) w g p (.returned w.heap.size) wr.drew from by
    obtain⟨b,v,q,h1,h2,h3,h4,h5,h6,h7⟩:=HQ.o;exact⟨b,v,q,h1,h2,h3,h4,h5.after (Aq _ _).drew,h6.ddrew,Fu h7⟩)
   by_cases hx:0<x
   ·have hxi:(0:Int)<(x:Int):=aI;have hdn:¬(0:Int)<d:=fun h=>hgo ⟨hx,h⟩;go_wp2_with fail;go_ret;first|exact HQ.o|exact HQd.o
   have hxi:¬(0:Int)<(x:Int):=aI;go_wp2_with fail;go_ret;first|exact HQ.o|exact HQd.o
theorem Qgq(xs:List (Ty × Value))(A0:Option Addr)(c0:Nat)(k:Kd)(sg:List UInt8)(hsg:k.signs=63::sg)(hk:Cw k)(d:Int)(hd:-1000<=d)(hd2:d<=1000)(N B:Nat)(H:0<d->Tz xs (.slice A0 xs.length c0) k.part (d - 1) N B)(hB:100<=B):Tz xs (.slice A0 xs.length c0) k d (N+1) (8*B+100):=by
 intro g p w hsc hR hp;have hgl:=hR.lt;have HR:=Aa hR;have HSc:=Aa hsc;have hkp:Be k=63::Be k.part:=dh;have hkl:(Be k).length<=100:=bR;have Hsv:=Aa (fun ks=>hkp ▸ Mg (Af xs) k ks);have Hno:=Aa (Ge.non (S:=Af xs) (d:=N) hsg);have Hsm:=Aa (fun x (h:Ge (Af xs) N k.part x)=>Ge.som (S:=Af xs) hsg h);unfold Tz at H;rw[hkp]at hkl ⊢;generalize Be k.part=kp at *;have HC0:=Aa H;have hkl2:kp.length<=100:=fj;obtain⟨xv,hxv⟩:∃xv:Value,xv=.slice A0 xs.length c0:=⟨_,rfl⟩
 rw[<-hxv]at HSc HC0 ⊢;clear hR hsc hkp hsg hkl hk H hxv;by_cases hdp:0<d
 ·go_enter func113,ntmps113;go_wp2_with fail;obtain⟨W1,hW1⟩:∃W1,W1=w.alloc (.cells #[(63::kp:List UInt8),a6,.slice none 0 0,.slice none 0 0] 148):=⟨_,rfl⟩
  have hz1:W1.heap.size=w.heap.size+1:=cN;have HS1:=@Aa (Eg (w.heap.size+1) w.heap.size W1 (63::kp:List UInt8) a6 (.slice none 0 0) (.slice none 0 0) (.slice none 0 0) (.slice none 0 0) [] []) cF;have HR1:=Aa (show E4 W1 g p by rw[hW1];exact HR.o.dalloc _);have Hg1:=Aa (show w.grownBy W1 (some g)by rw[hW1];exact World.grownBy_alloc w _ _)
  have HE:=Aa (fun q W (hq:q<=p+1) (h1:Eg (w.heap.size+1) w.heap.size W (63::kp:List UInt8) a6 (.slice none 0 0) (.slice none 0 0) (.slice none 0 0) (.slice none 0 0) [] []) (h2:E4 W g q) (h3:w.grownBy W (some g))=>show Jt (Af xs) k (N+1) (8*B+100) w g p (.returned w.heap.size) W from by
   refine⟨w.heap.size,.mk 63 [] 0 [],q,rfl,Hno.o,by simp[Aw,Di,Gl],by omega,?_,h2,h3⟩;have:=h1.done aK aK;rw[Hsv.o];exact this)
  rw[<-hW1];clear hW1;refine(Bn g p 3 _ HR1.o aI aI aI).mono ?_;rintro e w2 ⟨y,rfl,hy1,_,hR2,hg2⟩;have HS2:=Aa (HS1.o.gr hg2 hgl);have HR2:=Aa hR2;have Hg2:=Aa (Ad Hg1.o hg2);clear hR2 hg2 hy1 HS1 HR1 Hg1;have HC:=Aa (HC0.o hdp);have hwd:IntKind.i64.wrap (d - 1)=d - 1:=IntWalk.i64_in _ aI;by_cases hy:0<y
  ·have hyi:(0:Int)<(y:Int):=aI;have hqB:p+1+B<=900000000:=aI;obtain⟨q,hq⟩:∃q,q=p+1:=⟨_,rfl⟩
   rw[<-hq]at hqB HR2;obtain⟨xk,hxk⟩:∃xk:List (Nat × SV),xk=[]:=⟨_,rfl⟩
   obtain⟨A,hA⟩:∃A:Option Addr,A=none:=⟨_,rfl⟩
   obtain⟨c,hc⟩:∃c:Nat,c=0:=⟨_,rfl⟩
   have hxl:xk.length<=3:=by rw[hxk];simp
   have HSq:=@Aa (Eg (w.heap.size+1) w.heap.size w2 (63::kp:List UInt8) a6 (.slice none 0 0) (.slice none 0 0) (.slice A xk.length c) (.slice A xk.length c) [] xk) (by subst hxk hA hc;exact HS2.o);have Hxk:=Aa hxk;clear hxk hA hc HS2;go_upto_region 20 with fail
   obtain⟨W9,hW9⟩:∃W9,W9=w2.drew:=⟨_,rfl⟩
   have HS9:=@Aa (Eg (w.heap.size+1) w.heap.size W9 (63::kp:List UInt8) a6 (.slice none 0 0) (.slice none 0 0) (.slice A xk.length c) (.slice A xk.length c) [] xk) (by rw[hW9];exact HSq.o.after (Aq _ _).drew);have HR9:=Aa (show E4 W9 g q by rw[hW9];exact HR2.o.ddrew);have Hg9:=Aa (show w.grownBy W9 (some g)by rw[hW9];exact Fu Hg2.o);have HX9:=@Aa (Gj W9 xv xs) (HSc.o.grown HR.o Hg9.o);have HW9:=Aa hW9;clear hW9;refine Xa [87,88,89,90,91,92,93,94,95,96,97,98,99,100,101,102,999]
    (fun ix v W=>match ix with|0=>v=w.heap.size|1=>v=w.heap.size|2=>v=w.heap.size|3=>v=(w,3)|4=>v=.slice A xk.length c|5=>v=g|6=>v=xv|7=>v=(63::kp:List UInt8)|8=>v=(kp:List UInt8)|9=>v=.int .i64 d|10=>v=.int .i64 (d - 1)|14=>v=w.heap.size|15=>v=(w,3)|_=>True)
    (fun L U W=>Mt w g (w.heap.size+1) w.heap.size W9 (63::kp:List UInt8) a6 (.slice none 0 0) A c [] xk (DvF (Af xs) k.part N B q) (L 11) (L 12) (L 13) (L 16) (U 11) (U 12) (U 13) W) (by rw[<-HW9.o];exact Mt.start) ?_ ?_
   ·repeat (first|exact Bb.nil|(refine Bb.cons ?_ ?_;rotate_left))
    all_goals
     rintro L U W hL hpre HR Hdep K hK;first|(simp[Region.binds]at hpre;done)|simp[Region.binds]at hpre|clear hpre
    iterate 4
     ·exact fP
    ·exact gD
    iterate 3
     ·exact fP
    ·exact gV
    iterate 2
     ·exact fP
    ·exact gj
    ·exact gq
    ·obtain⟨l4,u4⟩:L 4=true/\U 4=.slice A xk.length c:=by
      exact jn
     have l12:L 12=true:=bZ;have l11:L 11=true:=Sm (Ct Hdep.o 12 11 rfl) l12;have h16:L 16=false:=Ct Hdep.o 16 13 rfl hL;obtain⟨W8,b8,v8,q8,hW,u12,hF,hR8,hg8,hv8,hL8⟩:=HR.o.s2 l12 hL;subst hW;rw[if_pos dm];refine Ml W8 (.tmp 91) (.tmp 99) 146 rfl (w.heap.size+1) 76 (.pointer none) 1 8 underlying146 Rt rfl aL [b8] rfl bL (.slice A xk.length c) xk.length (Dr (xk.map (·.1))) u4 u12 hL8.row bc aI hL8.bs ?_;exact jy
    iterate 2
     ·exact fP
    ·exact gk
   rintro L U W hL hφ hR;clear hφ;obtain⟨b6,v6,q6,A6,c6,⟨v7,rfl,k1,k2,k3⟩,hR6,hg6,hS6⟩:=hR.s4 (hL 16 aL)
   have HF:=Aa (show Jt (Af xs) k (N+1) (8*B+100) w g p (.returned w.heap.size) W from by
    refine⟨w.heap.size,.mk 63 [] 0 [v7],q6,rfl,Hsm.o v7 k1,by simp[Aw,Di,Gl,Ax];omega,by omega,?_,hR6,hg6⟩;have el:(xk++[(b6,Bt (Af xs) k.part v7)]).length=xk.length+1:=aK;rw[<-el]at hS6;have:=hS6.done aK aO;rw[Hsv.o];rw[Hxk.o]at this;exact this)
   clear hR hL hR6 hg6 hS6 k1 k2 k3;go_wp2_with fail;go_ret;exact HF.o
  have hyi:¬(0:Int)<(y:Int):=aI;have HF:=Aa (HE.o (p+1) w2 (Al _) HS2.o HR2.o Hg2.o);go_wp2_with fail;go_ret;exact HF.o
 go_enter func113,ntmps113;go_wp2_with fail;obtain⟨W1,hW1⟩:∃W1,W1=w.alloc (.cells #[(63::kp:List UInt8),a6,.slice none 0 0,.slice none 0 0] 148):=⟨_,rfl⟩
 have hz1:W1.heap.size=w.heap.size+1:=cN;have HS1:=@Aa (Eg (w.heap.size+1) w.heap.size W1 (63::kp:List UInt8) a6 (.slice none 0 0) (.slice none 0 0) (.slice none 0 0) (.slice none 0 0) [] []) cF;have HR1:=Aa (show E4 W1 g p by rw[hW1];exact HR.o.dalloc _);have Hg1:=Aa (show w.grownBy W1 (some g)by rw[hW1];exact World.grownBy_alloc w _ _)
 have HE:=Aa (fun q W (hq:q<=p+1) (h1:Eg (w.heap.size+1) w.heap.size W (63::kp:List UInt8) a6 (.slice none 0 0) (.slice none 0 0) (.slice none 0 0) (.slice none 0 0) [] []) (h2:E4 W g q) (h3:w.grownBy W (some g))=>show Jt (Af xs) k (N+1) (8*B+100) w g p (.returned w.heap.size) W from by
  refine⟨w.heap.size,.mk 63 [] 0 [],q,rfl,Hno.o,by simp[Aw,Di,Gl],by omega,?_,h2,h3⟩;have:=h1.done aK aK;rw[Hsv.o];exact this)
 have HF:=Aa (HE.o p W1 aI HS1.o HR1.o Hg1.o);rw[<-hW1];clear hW1;go_ret;exact HF.o
def DtC(xs:List (Ty × Value))(xv:Value)(k:Kd)(d:Int)(N B:Nat):Prop:=∀(g p:Nat) (W:World),Gj W xv xs->E4 W g p->p+B<=900000000 ->
 Calls prog 167 #[g,xv,.string ⟨(Be k).toArray⟩,.int .i64 d] W (Jt (Af xs) k N B W g p)
theorem Qbl{W:World}{b b' k n:Nat}{e:TypeId}{v:Value}{xs:List Value}(h:W.ownsRow b e k v n xs)(hb:b'<=b):W.ownsRow b' e k v n xs:=by
 obtain⟨h0,h|⟨g,cap,cur,h1,h2,h3⟩⟩:=h
 ·exact⟨h0,.inl h⟩
 exact⟨h0,.inr ⟨g,cap,cur,h1,ad hb h2,h3⟩⟩
theorem Qfj(W:World)(T:TypeId)(u:Value):(W.alloc (.cells #[u] T)).ownsRow W.heap.size T 1 (.slice (W,0) 1 1) 1 [u]:=
 ⟨rfl,.inr ⟨W.heap.size,1,#[u],rfl,Al _,heap_alloc_new W _,Al _,by unfold maxLen;omega,rfl,rfl⟩⟩
section
variable {base B:Nat} {W W':World} {h0 h1:Value}
theorem Eg.putT{xs:List (Nat × SV)}{ku kv:Value}(h:Eg base B W h0 h1 (.slice none 0 0) (.slice none 0 0) ku kv [] xs)(g:Nat):
  Eg base B ((W.alloc (.cells #[(g:Int)] 3)).setCell ⟨B,2,none⟩ (.slice (W,0) 1 1)) h0 h1 (.slice (W,0) 1 1) (.slice (W,0) 1 1) ku kv [g] xs:=by
 have hb:Below W W (W.alloc (.cells #[(g:Int)] 3)):=(Aq _ _).alloc (Al _) _;have h':=h.after hb;refine Eg.set2 (tu:=.slice none 0 0) ⟨h'.lt,h'.bs,h'.hB,h'.bk,h'.c0,h'.c1,h'.c2,h'.c3,Qbl (Qfj W _ _) h.bs,h'.row,fun x hx=>(h.kids x hx).mono (fun c hc hl=>⟨hc.1,hc.2.1,fun e=>by injection e with e;simp only at e;omega⟩) |>.after hb⟩
theorem Eg.putK{gs:List Nat}{tv:Value}(h:Eg base B W h0 h1 tv tv (.slice none 0 0) (.slice none 0 0) gs []){b:Nat}{v:SV}(hv:En (fun c=>base<=c/\tv.ownBlock≠some c) W b v):
  Eg base B ((W.alloc (.cells #[b] 76)).setCell ⟨B,3,none⟩ (.slice (W,0) 1 1)) h0 h1 tv tv (.slice (W,0) 1 1) (.slice (W,0) 1 1) gs [(b,v)]:=by
 have hb:Below W W (W.alloc (.cells #[b] 76)):=(Aq _ _).alloc (Al _) _;have h':=h.after hb;refine Eg.set3 (ku:=.slice none 0 0) ⟨h'.lt,h'.bs,h'.hB,h'.bk,h'.c0,h'.c1,h'.c2,h'.c3,h'.tags,Qbl (Qfj W _ _) h.bs,fun x hx=>?_⟩;rw[ar]at hx;subst hx;exact(hv.mono (Q:=fun c=>base<=c/\(Value.slice (W,0) 1 1).ownBlock≠some c/\tv.ownBlock≠some c) fun c hc hl=>⟨hc.1,fun e=>by injection e with e;simp only at e;omega,hc.2⟩).after hb
end
structure Qov(g p B:Nat)(fs:List Fd)(W1:World)(lc lb ls:Bool)(ub:Value)(W:World):Prop where
 s0:lc=false->W=W1
 s1:lc=true->lb=false->E4 W g p/\W1.grownBy W (some g)
 s2:lb=true->ls=false->∃W8,∃f∈fs,W=W8.alloc (.cells #[(f.tag:Int)] 3)/\ub=.slice (some ⟨W8.heap.size,0,none⟩) 1 1/\E4 W8 g p/\W1.grownBy W8 (some g)
 s3:ls=true->∃W8,∃f∈fs,W=(W8.alloc (.cells #[(f.tag:Int)] 3)).setCell ⟨B,2,none⟩ (.slice (some ⟨W8.heap.size,0,none⟩) 1 1)/\E4 W8 g p/\W1.grownBy W8 (some g)
theorem Qov.old{g p B:Nat}{fs:List Fd}{W1 W:World}{lc lb ls:Bool}{ub:Value}(h:Qov g p B fs W1 lc lb ls ub W)(hs:ls=false){b o:Nat}{u:Value}(hb:b<W1.heap.size)(hg:b≠g)(hu:W1.cell? ⟨b,o,none⟩=some u):W.cell? ⟨b,o,none⟩=some u:=by
 have hn:some b≠some g:=fun e=>hg (by injection e);cases ec:lc with
 |false=>rw[h.s0 ec];exact hu
 |true=>
  cases eb:lb with
  |false=>exact(h.s1 ec eb).2.cell hu hn
  |true=>
   obtain⟨W8,f,_,rfl,_,_,h8⟩:=h.s2 eb hs;exact(((Aq W8.heap.size W8).alloc (Al _) _).cell (p:=⟨b,o,none⟩) (ac hb h8.size)).trans (h8.cell hu hn)
theorem Qpb(xs:List (Ty × Value))(A0:Option Addr)(c0:Nat)(k:Kd)(hk:Cw k)(hsg:k.signs=[])(hbs:k.base=[64])(nm:List UInt8)(fs:List Fd)(A9:Option Addr)(c9:Nat)(hx:D9 xs k.name=some (⟨69,nm,fs⟩,.slice A9 fs.length c9))(htg:∀f∈fs,Ap fs f.tag=some f)(h200:∀f∈fs,f.tag<=200)(hfk:∀f∈fs,(Be f.kind).length<=20)(hn0:0<fs.length)(hn8:fs.length<=8)(d:Int)(hd:-1000<=d)(hd2:d<=1000)(N:Nat):DtC xs (.slice A0 xs.length c0) k d (N+1) 100:=by
 intro g p w hsc hR hp;have hgl:=hR.lt;have HR:=Aa hR;have HSc:=Aa hsc
 have Hr:=Aa (show ∀W,Gj W (.slice A0 xs.length c0) xs->Calls prog 101 #[.slice A0 xs.length c0,.string ⟨(Be k).toArray⟩] W fun e w'=>e=.returned (.tuple #[.agg #[.int .u8 69,nm,.slice A9 fs.length c9],.bool true])/\Below W W w' from fun W hW=>by
  have h:=Fb (.slice A0 xs.length c0) xs k W hW hk;rw[show Jn xs k=some (⟨69,nm,fs⟩,.slice A9 fs.length c9)from by unfold Jn;rw[if_pos ⟨hsg,hbs⟩];exact hx]at h;exact h)
 have HFd:=@Aa (∀W,Gj W (.slice A0 xs.length c0) xs->D8 W (.slice A9 fs.length c9) fs) (fun W hW=>by obtain⟨_,_,_,_,_,hf⟩:=hW;exact hf _ (Cl hx).1);have hft:=(Cl hx).2.2;have hkl:(Be k).length<=100:=bR;have Hok:=Aa (fun f (hf:f∈fs)=>Ge.enm (S:=Af xs) (d:=N) hsg hbs hft rfl (htg f hf));have Hsv:=Aa (fun g=>Qa (Af xs) k g);have Hh2:=Aa h200;have Hfk:=Aa hfk;generalize Be k=kb at *;obtain⟨xv,hxv⟩:∃xv:Value,xv=.slice A0 xs.length c0:=⟨_,rfl⟩
 rw[<-hxv]at HSc Hr HFd ⊢;clear hR hsc hk hsg hbs hx hft htg h200 hfk hxv;go_enter func167,ntmps167;go_wp2_with fail;refine(Hr.o _ HSc.o).mono ?_;rintro e w1 ⟨rfl,hb1⟩;have HR1:=Aa (HR.o.below hb1);have Hb1:=Aa hb1;have hz1:=hb1.size;clear hb1;have hcv:=fun W=>Jh W (w1.heap.size+1) 1 69;obtain⟨W3,hW3⟩:∃W3,W3=((w1.alloc (.cells #[.int .u8 69,nm,.slice A9 fs.length c9] 143)).alloc (.cells #[.int .u8 69] 5)).alloc (.cells #[kb,([69]:List UInt8),.slice none 0 0,.slice none 0 0] 148):=⟨_,rfl⟩
 have hz3:W3.heap.size=w1.heap.size+3:=ev;have b13:Below w1 w1 W3:=fB
 have HS3:=Aa (show Eg (w1.heap.size+3) (w1.heap.size+2) W3 kb ([69]:List UInt8) (.slice none 0 0) (.slice none 0 0) (.slice none 0 0) (.slice none 0 0) [] []from by
  have:=Eg.new (W:=(w1.alloc (.cells #[.int .u8 69,nm,.slice A9 fs.length c9] 143)).alloc (.cells #[.int .u8 69] 5)) (T:=148) kb ([69]:List UInt8);rw[<-hW3]at this;simpa using this)
 have HR3:=Aa (HR1.o.below b13);have Hg3:=@Aa (w.grownBy W3 (some g)) (Cb (Hb1.o.trans (b13.mono Hb1.o.size)) _);have HX3:=@Aa (Gj W3 xv xs) (HSc.o.below (Hb1.o.trans (b13.mono Hb1.o.size)));have X2:=@Aa (W3.cell? (w1,2)=some (.slice A9 fs.length c9)) eD;have HF3:=Aa (HFd.o W3 HX3.o);have Hw3:=Aa hW3;clear hW3 b13 HR1;go_upto_region 5 with fail
 rw[<-Hw3.o];clear hcv Hw3;obtain⟨W4,hW4⟩:∃W4,W4=W3.drew:=⟨_,rfl⟩
 have hz4:W4.heap.size=w1.heap.size+3:=by rw[hW4];simpa using hz3
 have HS4:=@Aa (Eg (w1.heap.size+3) (w1.heap.size+2) W4 kb ([69]:List UInt8) (.slice none 0 0) (.slice none 0 0) (.slice none 0 0) (.slice none 0 0) [] []) (by rw[hW4];exact HS3.o.after (Aq _ _).drew);have HR4:=Aa (show E4 W4 g p by rw[hW4];exact HR3.o.ddrew);have Hg4:=Aa (show w.grownBy W4 (some g)by rw[hW4];exact Fu Hg3.o);have X4:=Aa (show W4.cell? (w1,2)=some (.slice A9 fs.length c9)by rw[hW4];exact X2.o);have HF4:=Aa (show D8 W4 (.slice A9 fs.length c9) fs by rw[hW4];exact HF3.o.below (Aq _ _).drew);have HW4:=Aa hW4;clear hW4 HS3 HR3 Hg3 X2 HF3;refine Xa [32,33,34,35,36,37,38,39,40,41,42,43,44,45,999]
  (fun ix v W=>match ix with|0=>v=(w1,2,0)|1=>v=(w1,2)|2=>v=.slice A9 fs.length c9|3=>v=g|4=>v=(w1,2)|5=>v=.slice A9 fs.length c9|6=>v=(fs.length:Int)|7=>∃x:Nat,v=(x:Int)/\x<fs.length|8=>∃x:Nat,x<fs.length/\∃b o:Nat,A9=some ⟨b,o,none⟩/\v=.pointer (some ⟨b,o+x*4,none⟩)|9=>∃x:Nat,x<fs.length/\∃b o:Nat,A9=some ⟨b,o,none⟩/\v=.pointer (some ⟨b,o+x*4,none⟩)|10=>∃f∈fs,v=(f.tag:Int)|12=>v=(w1,2,0)|13=>v=(w1,2,2)|_=>True)
  (fun L U W=>Qov g (p+1) (w1.heap.size+2) fs W4 (L 7) (L 11) (L 14) (U 11) W) (by rw[<-HW4.o];exact⟨fun _=>rfl,fun h=>Bool.noConfusion h,fun h=>Bool.noConfusion h,fun h=>Bool.noConfusion h⟩) ?_ ?_
 ·repeat (first|exact Bb.nil|(refine Bb.cons ?_ ?_;rotate_left))
  all_goals
   rintro L U W hL hpre HR Hdep K hK;first|(simp[Region.binds]at hpre;done)|simp[Region.binds]at hpre|clear hpre
  iterate 2
   ·exact fP
  ·have h14:L 14=false:=Ct Hdep.o 14 11 rfl (Ct Hdep.o 11 10 rfl (Ct Hdep.o 10 9 rfl (Ct Hdep.o 9 8 rfl (Ct Hdep.o 8 2 rfl hL))));exact jz
  iterate 2
   ·exact fP
  ·have h7:L 7=false:=Ct Hdep.o 7 6 rfl (Ct Hdep.o 6 5 rfl hL);have h14:L 14=false:=Ct Hdep.o 14 11 rfl (Ct Hdep.o 11 10 rfl (Ct Hdep.o 10 9 rfl (Ct Hdep.o 9 8 rfl (Ct Hdep.o 8 7 rfl h7))));exact jz
  ·exact fP
  ·have h11:L 11=false:=Ct Hdep.o 11 10 rfl (Ct Hdep.o 10 9 rfl (Ct Hdep.o 9 8 rfl (Ct Hdep.o 8 7 rfl hL)));have h14:L 14=false:=Ct Hdep.o 14 11 rfl h11;have hW:=HR.o.s0 hL;subst hW;go_simp;refine(Bn g p (fs.length:Int) _ HR4.o aI aI aI).mono ?_;rintro e w5 ⟨x,rfl,hx1,_,hR5,hg5⟩;exact hK _ _ _ ⟨x,rfl,by omega⟩ Ae ⟨fun h=>by simp at h,fun _ _=>⟨hR5,hg5⟩,fun h=>absurd (h11.symm.trans aU) aL,fun h=>absurd (h14.symm.trans aU) aL⟩ aJ
  ·obtain⟨x,u7,hx⟩:∃x:Nat,U 7=(x:Int)/\x<fs.length:=eH;have u2:U 2=.slice A9 fs.length c9:=eG;obtain⟨A5,c5,e5,hl5,hr5⟩:=HF4.o;injection e5 with e5 _ e6;subst e5 e6;obtain⟨b5,o5,rfl,_,_⟩:=D8.at_ hr5 hx;have i1:(0:Int)<=(x:Int):=aI;have i2:(x:Int)<(fs.length:Int):=aI;simp only[u7,u2];go_simp;exact hK _ _ _ ⟨x,hx,b5,o5,rfl,rfl⟩ Ae HR.o (by simp[Act.put,hpre,u7,u2])
  ·obtain⟨x,hx,b5,o5,eA,u8⟩:∃x:Nat,x<fs.length/\∃b o:Nat,A9=some ⟨b,o,none⟩/\U 8=.pointer (some ⟨b,o+x*4,none⟩):=dg;simp only[u8];go_simp;exact hK _ _ _ ⟨x,hx,b5,o5,eA,rfl⟩ Ae HR.o (by simp[Act.put,hpre,u8,eA])
  ·obtain⟨x,hx,b5,o5,eA,u9⟩:∃x:Nat,x<fs.length/\∃b o:Nat,A9=some ⟨b,o,none⟩/\U 9=.pointer (some ⟨b,o+x*4,none⟩):=dg;have l9:L 9=true:=dZ;have l8:L 8=true:=Sm (Ct Hdep.o 9 8 rfl) l9;have l7:L 7=true:=Sm (Ct Hdep.o 8 7 rfl) l8;have h11:L 11=false:=Ct Hdep.o 11 10 rfl hL;obtain⟨hR5,hg5⟩:=HR.o.s1 l7 h11;obtain⟨A5,c5,e5,hl5,hr5⟩:=HF4.o.grown HR4.o hg5;injection e5 with e5 _ e6;subst e5 e6;obtain⟨b6,o6,eA6,_,y0,_,_,_⟩:=D8.at_ hr5 hx;rw[eA]at eA6;injection eA6 with eA6;injection eA6 with e7 e8;subst e7 e8;simp only[u9];go_simp;exact hK _ _ _ ⟨_,ae hx,rfl⟩ Ae HR.o (by simp[Act.put,hpre,u9,eA])
  ·obtain⟨f,hf,u10⟩:∃f∈fs,U 10=(f.tag:Int):=dg;have l10:L 10=true:=dZ;have l9:L 9=true:=Sm (Ct Hdep.o 10 9 rfl) l10;have l8:L 8=true:=Sm (Ct Hdep.o 9 8 rfl) l9;have l7:L 7=true:=Sm (Ct Hdep.o 8 7 rfl) l8;have h14:L 14=false:=Ct Hdep.o 14 11 rfl hL;obtain⟨hR5,hg5⟩:=HR.o.s1 l7 hL;simp only[u10];go_simp;exact hK _ _ _ Ae Ae ⟨fun h=>absurd (l7.symm.trans aU) aL,fun _ h=>by simp at h,fun _ _=>⟨W,f,hf,rfl,rfl,hR5,hg5⟩,fun h=>absurd (h14.symm.trans aU) aL⟩ (by simp[Act.put,hpre,u10])
  iterate 2
   ·exact fP
  ·have l11:L 11=true:=bZ;have l10:L 10=true:=Sm (Ct Hdep.o 11 10 rfl) l11;have l9:L 9=true:=Sm (Ct Hdep.o 10 9 rfl) l10;have l8:L 8=true:=Sm (Ct Hdep.o 9 8 rfl) l9;have l7:L 7=true:=Sm (Ct Hdep.o 8 7 rfl) l8;obtain⟨W8,f,hf,hW,u11,hR8,hg8⟩:=HR.o.s2 l11 hL;subst hW;have hS8:=(HS4.o.gr hg8 aI).after ((Aq W8.heap.size W8).alloc (Al _) (.cells #[(f.tag:Int)] 3));have x3:=hS8.c2;have x4:=hS8.bk.live 2;have x5:=hS8.lt;simp only[u11];go_simp;exact hK undef _ _ Ae Ae ⟨fun h=>absurd (l7.symm.trans aU) aL,fun _ h=>absurd (l11.symm.trans aU) aL,fun _ h=>by simp at h,fun _=>⟨W8,f,hf,by simp[hpre],hR8,hg8⟩⟩ (by simp[Act.put,hpre,u11])
 rintro L U W hL hφ hR;clear hφ;obtain⟨W8,f,hf,rfl,hR8,hg8⟩:=hR.s3 (hL 14 aL)
 have HF:=Aa (show Jt (Af xs) k (N+1) 100 w g p (.returned (w1,2,0)) ((W8.alloc (.cells #[(f.tag:Int)] 3)).setCell ⟨w1.heap.size+2,2,none⟩ (.slice (W8,0) 1 1))from by
  have hdl:=C9 2 f.tag (by have:=Hh2.o f hf;omega);have hS:=((HS4.o.gr hg8 aI).putT f.tag).done aK aK;have hg9:=Ad Hg4.o hg8;refine⟨w1.heap.size+2,.mk 69 [] f.tag [],p+1,rfl,Hok.o f hf,by simp[Aw,Di,Gl];omega,by omega,?_,(hR8.dalloc _).row (Ai _ (w1.heap.size+2) 2 _) (base:=w1.heap.size+2) (fun k e=>by injection e with e;omega) aI,Fr (Ad hg9 (World.grownBy_alloc W8 _ _)) (Ai _ (w1.heap.size+2) 2 _) (base:=w1.heap.size+2) (fun k e=>by injection e with e;omega) aI⟩;rw[Hsv.o];exact hS.mono fun c hc _=>by omega)
 clear hR hL hR8 hg8;go_wp2_with fail;go_ret;exact HF.o
theorem Qa7{W W':World}{b o n:Nat}{r:Option Nat}(h:W.there b o n)(hb:b<W.heap.size)(hg:W.grownBy W' r)(hne:some b≠r):W'.there b o n:=fun j hj=>by
 obtain⟨h1,h2⟩:=h j hj;have e:=hg.block b hb hne;simp only[World.cell?,World.frozen?,e]at h1 h2 ⊢;exact⟨h1,h2⟩
theorem Po(b:Nat):∀(vs:List Value) (o:Nat) (w:World),w.grownBy (w.setCells b o vs) (some b)
 |[],_,w=>World.grownBy.refl _ _
 |v::r,o,w=>Ad (Ai w b o v) (Po b r (o+1) _)
theorem Eg.far{base B b:Nat}{W W':World}{h0 h1:Value}(h:Eg base B W h0 h1 (.slice none 0 0) (.slice none 0 0) (.slice none 0 0) (.slice none 0 0) [] [])(hg:W.grownBy W' (some b))(hb:b≠B:=by omega):Eg base B W' h0 h1 (.slice none 0 0) (.slice none 0 0) (.slice none 0 0) (.slice none 0 0) [] []:=by
 have hn:some B≠some b:=fun e=>hb (by injection e with e;exact e.symm);exact⟨ac h.lt hg.size,ad h.bs hg.size,h.hB,h.bk.grown h.lt hg hn,hg.cell h.c0 hn,hg.cell h.c1 hn,hg.cell h.c2 hn,hg.cell h.c3 hn,World.ownsRow_nil _ _ _ _,World.ownsRow_nil _ _ _ _,by simp⟩
theorem Qnj(xs:List (Ty × Value))(A0:Option Addr)(c0:Nat)(k:Kd)(hk:Cw k)(hsg:k.signs=[])(hbs:k.base=[64])(nm:List UInt8)(fs:List Fd)(A9:Option Addr)(c9:Nat)(hx:D9 xs k.name=some (⟨85,nm,fs⟩,.slice A9 fs.length c9))(htg:∀f∈fs,Ap fs f.tag=some f)(h200:∀f∈fs,f.tag<=200)(hfk:∀f∈fs,(Be f.kind).length<=20)(hn0:0<fs.length)(hn8:fs.length<=8)(d:Int)(hd:-1000<=d)(hd2:d<=1000)(N:Nat)(B:Nat)(HH:Tz xs (.slice A0 xs.length c0) (fs[0]).kind (d - 1) N B)(hdp:¬0<d):DtC xs (.slice A0 xs.length c0) k d (N+1) (B+100):=by
 intro g p w hsc hR hp;have hgl:=hR.lt;have HR:=Aa hR;have HSc:=Aa hsc
 have Hr:=Aa (show ∀W,Gj W (.slice A0 xs.length c0) xs->Calls prog 101 #[.slice A0 xs.length c0,.string ⟨(Be k).toArray⟩] W fun e w'=>e=.returned (.tuple #[.agg #[.int .u8 85,nm,.slice A9 fs.length c9],.bool true])/\Below W W w' from fun W hW=>by
  have h:=Fb (.slice A0 xs.length c0) xs k W hW hk;rw[show Jn xs k=some (⟨85,nm,fs⟩,.slice A9 fs.length c9)from by unfold Jn;rw[if_pos ⟨hsg,hbs⟩];exact hx]at h;exact h)
 have HFd:=@Aa (∀W,Gj W (.slice A0 xs.length c0) xs->D8 W (.slice A9 fs.length c9) fs) (fun W hW=>by obtain⟨_,_,_,_,_,hf⟩:=hW;exact hf _ (Cl hx).1);have hft:=(Cl hx).2.2;have hkl:(Be k).length<=100:=bR;have Hok:=Aa (fun f (hf:f∈fs) x (h:Ge (Af xs) N f.kind x)=>Ge.uni (S:=Af xs) hsg hbs hft rfl (htg f hf) h);have Hsv:=@Aa (∀f∈fs,∀x,Bt (Af xs) k (.mk 85 [] f.tag [x])=.mk (Be k) [85] [f.tag] [Bt (Af xs) f.kind x]) (fun f hf x=>by rw[Nr,E5 hft (htg f hf)]);unfold Tz at HH;have Hh2:=Aa h200;have Hfk:=Aa hfk;generalize Be k=kb at *;obtain⟨xv,hxv⟩:∃xv:Value,xv=.slice A0 xs.length c0:=⟨_,rfl⟩
 rw[<-hxv]at HSc Hr HFd HH ⊢;have HH0:=Aa HH;clear HH hR hsc hk hsg hbs hx hft htg h200 hfk hxv;go_enter func167,ntmps167;go_wp2_with fail;refine(Hr.o _ HSc.o).mono ?_;rintro e w1 ⟨rfl,hb1⟩;have HR1:=Aa (HR.o.below hb1);have Hb1:=Aa hb1;have hz1:=hb1.size;clear hb1;have hcv:=fun W=>Jh W (w1.heap.size+1) 1 85;obtain⟨W3,hW3⟩:∃W3,W3=((w1.alloc (.cells #[.int .u8 85,nm,.slice A9 fs.length c9] 143)).alloc (.cells #[.int .u8 85] 5)).alloc (.cells #[kb,([85]:List UInt8),.slice none 0 0,.slice none 0 0] 148):=⟨_,rfl⟩
 have hz3:W3.heap.size=w1.heap.size+3:=ev;have b13:Below w1 w1 W3:=fB
 have HS3:=Aa (show Eg (w1.heap.size+3) (w1.heap.size+2) W3 kb ([85]:List UInt8) (.slice none 0 0) (.slice none 0 0) (.slice none 0 0) (.slice none 0 0) [] []from by
  have:=Eg.new (W:=(w1.alloc (.cells #[.int .u8 85,nm,.slice A9 fs.length c9] 143)).alloc (.cells #[.int .u8 85] 5)) (T:=148) kb ([85]:List UInt8);rw[<-hW3]at this;simpa using this)
 have HR3:=Aa (HR1.o.below b13);have Hg3:=@Aa (w.grownBy W3 (some g)) (Cb (Hb1.o.trans (b13.mono Hb1.o.size)) _);have HX3:=@Aa (Gj W3 xv xs) (HSc.o.below (Hb1.o.trans (b13.mono Hb1.o.size)));have X2:=@Aa (W3.cell? (w1,2)=some (.slice A9 fs.length c9)) eD;have HF3:=Aa (HFd.o W3 HX3.o);have Hw3:=Aa hW3;clear hW3 b13 HR1;obtain⟨A5,cc5,e5,hl5,hr5⟩:=HFd.o w1 (HSc.o.below Hb1.o);injection e5 with e5 _ e6;subst e5 e6;obtain⟨b5,o5,rfl,hb5,x0,x1,x2,x3⟩:=D8.at_ hr5 hn0;have Hf0:=Aa (ae hn0);generalize fs[0]=f0 at x0 x1 x2 x3 Hf0 HH0;simp only[Nat.zero_mul,Nat.add_zero]at x0 x1 x2 x3;have nb0:¬(b5=w1.heap.size):=aI;have nb1:¬(b5=w1.heap.size+1):=aI;have nb2:¬(b5=w1.heap.size+1+1):=aI;have lb1:b5<w1.heap.size+1:=aI;have lb2:b5<w1.heap.size+1+1:=aI;have hn0i:(0:Int)<(fs.length:Int):=aI;go_upto_region 11 with fail
 rw[<-Hw3.o];clear hcv;obtain⟨W9,hW9⟩:∃W9,W9=W3.alloc (.cells #[(f0.tag:Int),f0.name,.string ⟨(Be f0.kind).toArray⟩,f0.given] 157):=⟨_,rfl⟩
 rw[<-hW9];have b39:Below W3 W3 W9:=by rw[hW9];exact(Aq _ _).alloc (Al _) _
 have HS9:=Aa (HS3.o.after b39);have HR9:=Aa (HR3.o.below b39);have Hg9:=Aa (Ad Hg3.o (Cb b39 _));have LF9:=Aa (show w1.heap.size+3<W9.heap.size by rw[hW9];simp;omega);have RF9:=Aa (show W9.rangeAt (w1.heap.size+3) 0 (sfc f0)by rw[hW9,<-hz3];exact Br W3 (sfc f0) 157);clear hW9 b39 Hw3 x0 x1 x2 x3 HS3 HR3 Hg3;obtain⟨f,hf⟩:∃f,f=f0:=⟨_,rfl⟩
 subst hf;have Hf:=Hf0;have HCf:=HH0;have z0:=Ab RF9.o 0 rfl;have z2:=Ab RF9.o 2 rfl;simp only[am]at z0 z2;have y2:=HS9.o.c2;have y2f:=HS9.o.bk.live 2;have ly:=HS9.o.lt;have lF:=LF9.o;have nBF:¬(w1.heap.size+3=w1.heap.size+2):=aI;have nB9:¬(w1.heap.size+2=W9.heap.size):=aI;have nF9:¬(w1.heap.size+3=W9.heap.size):=aI;have hwd:IntKind.i64.wrap (d - 1)=d - 1:=IntWalk.i64_in _ aI;have hE:(W9.setCell ⟨w1.heap.size+1+1,2,none⟩ (.slice (some ⟨W9.heap.size,0,none⟩) 1 1)).alloc (.cells #[(f.tag:Int)] 3)=(W9.alloc (.cells #[(f.tag:Int)] 3)).setCell ⟨w1.heap.size+2,2,none⟩ (.slice (some ⟨W9.heap.size,0,none⟩) 1 1):=by
  have ly2:w1.heap.size+1+1<W9.heap.size:=ly;show _=(W9.alloc (.cells #[(f.tag:Int)] 3)).setCell ⟨w1.heap.size+1+1,2,none⟩ (.slice (some ⟨W9.heap.size,0,none⟩) 1 1);go_simp
 have HE9:=Aa hE;clear hE;go_wp2_with fail;obtain⟨WC,hWC⟩:∃WC,WC=(W9.alloc (.cells #[(f.tag:Int)] 3)).setCell ⟨w1.heap.size+2,2,none⟩ (.slice (some ⟨W9.heap.size,0,none⟩) 1 1):=⟨_,rfl⟩
 have hzC:WC.heap.size=W9.heap.size+1:=by rw[hWC];simp
 have HSC:=@Aa (Eg (w1.heap.size+3) (w1.heap.size+2) WC kb ([85]:List UInt8) (.slice (some ⟨W9.heap.size,0,none⟩) 1 1) (.slice (some ⟨W9.heap.size,0,none⟩) 1 1) (.slice none 0 0) (.slice none 0 0) [f.tag] []) (by rw[hWC];exact HS9.o.putT f.tag);have HRC:=Aa (show E4 WC g (p)by rw[hWC];exact(HR9.o.dalloc _).row (Ai _ (w1.heap.size+2) 2 _) (base:=w1.heap.size+2) (fun k e=>by injection e with e;omega) aI);have HgC:=Aa (show w.grownBy WC (some g)by rw[hWC];exact Fr (Ad Hg9.o (World.grownBy_alloc W9 _ _)) (Ai _ (w1.heap.size+2) 2 _) (base:=w1.heap.size+2) (fun k e=>by injection e with e;omega) aI);have HXC:=@Aa (Gj WC xv xs) (HSc.o.grown HR.o HgC.o);rw[HE9.o,<-hWC];clear hWC z0 z2 y2 y2f ly lF nBF nB9 nF9;refine(HCf.o g (p) WC HXC.o HRC.o aI).mono ?_;rintro e w5 ⟨b6,v6,q6,rfl,k1,k2,k3,k4,k5,k6⟩;have HS5:=Aa (HSC.o.gr k6 aI);have y3:=HS5.o.c3;have y3f:=HS5.o.bk.live 3;have ly5:=HS5.o.lt;have nB5:¬(w1.heap.size+2=w5.heap.size):=aI;have K1:=Aa k1;have K4:=Aa k4;have K5:=Aa k5;have Hg5:=Aa (Ad HgC.o k6);clear k1 k4 k5 k6;have hE:(w5.setCell ⟨w1.heap.size+1+1,3,none⟩ (.slice (w5,0) 1 1)).alloc (.cells #[b6] 76)=(w5.alloc (.cells #[b6] 76)).setCell ⟨w1.heap.size+2,3,none⟩ (.slice (w5,0) 1 1):=by
  have ly2:w1.heap.size+1+1<w5.heap.size:=ly5;show _=(w5.alloc (.cells #[b6] 76)).setCell ⟨w1.heap.size+1+1,3,none⟩ (.slice (w5,0) 1 1);go_simp
 have HE5:=Aa hE;clear hE;go_wp2_with fail;go_ret;rw[HE5.o];have lF9:=LF9.o;have hdl:=C9 2 f.tag (by have:=Hh2.o f Hf.o;omega);refine⟨w1.heap.size+2,.mk 85 [] f.tag [v6],q6,rfl,Hok.o f Hf.o v6 K1.o,by rw[Qo];simp[Jo];omega,by omega,?_,(K5.o.dalloc _).row (Ai _ (w1.heap.size+2) 3 _) (base:=w1.heap.size+2) (fun k e=>by injection e with e;omega) aI,Fr (Ad Hg5.o (World.grownBy_alloc w5 _ _)) (Ai _ (w1.heap.size+2) 3 _) (base:=w1.heap.size+2) (fun k e=>by injection e with e;omega) aI⟩;exact jA
theorem Qmw(xs:List (Ty × Value))(A0:Option Addr)(c0:Nat)(k:Kd)(hk:Cw k)(hsg:k.signs=[])(hbs:k.base=[64])(nm:List UInt8)(fs:List Fd)(A9:Option Addr)(c9:Nat)(hx:D9 xs k.name=some (⟨85,nm,fs⟩,.slice A9 fs.length c9))(htg:∀f∈fs,Ap fs f.tag=some f)(h200:∀f∈fs,f.tag<=200)(hfk:∀f∈fs,(Be f.kind).length<=20)(hn0:0<fs.length)(hn8:fs.length<=8)(d:Int)(hd:-1000<=d)(hd2:d<=1000)(N:Nat)(B:Nat)(HH:∀f∈fs,Tz xs (.slice A0 xs.length c0) f.kind (d - 1) N B)(hdp:0<d):DtC xs (.slice A0 xs.length c0) k d (N+1) (B+100):=by
 intro g p w hsc hR hp;have hgl:=hR.lt;have HR:=Aa hR;have HSc:=Aa hsc
 have Hr:=Aa (show ∀W,Gj W (.slice A0 xs.length c0) xs->Calls prog 101 #[.slice A0 xs.length c0,.string ⟨(Be k).toArray⟩] W fun e w'=>e=.returned (.tuple #[.agg #[.int .u8 85,nm,.slice A9 fs.length c9],.bool true])/\Below W W w' from fun W hW=>by
  have h:=Fb (.slice A0 xs.length c0) xs k W hW hk;rw[show Jn xs k=some (⟨85,nm,fs⟩,.slice A9 fs.length c9)from by unfold Jn;rw[if_pos ⟨hsg,hbs⟩];exact hx]at h;exact h)
 have HFd:=@Aa (∀W,Gj W (.slice A0 xs.length c0) xs->D8 W (.slice A9 fs.length c9) fs) (fun W hW=>by obtain⟨_,_,_,_,_,hf⟩:=hW;exact hf _ (Cl hx).1);have hft:=(Cl hx).2.2;have hkl:(Be k).length<=100:=bR;have Hok:=Aa (fun f (hf:f∈fs) x (h:Ge (Af xs) N f.kind x)=>Ge.uni (S:=Af xs) hsg hbs hft rfl (htg f hf) h);have Hsv:=@Aa (∀f∈fs,∀x,Bt (Af xs) k (.mk 85 [] f.tag [x])=.mk (Be k) [85] [f.tag] [Bt (Af xs) f.kind x]) (fun f hf x=>by rw[Nr,E5 hft (htg f hf)]);unfold Tz at HH;have Hh2:=Aa h200;have Hfk:=Aa hfk;generalize Be k=kb at *;obtain⟨xv,hxv⟩:∃xv:Value,xv=.slice A0 xs.length c0:=⟨_,rfl⟩
 rw[<-hxv]at HSc Hr HFd HH ⊢;have HH0:=Aa HH;clear HH hR hsc hk hsg hbs hx hft htg h200 hfk hxv;go_enter func167,ntmps167;go_wp2_with fail;refine(Hr.o _ HSc.o).mono ?_;rintro e w1 ⟨rfl,hb1⟩;have HR1:=Aa (HR.o.below hb1);have Hb1:=Aa hb1;have hz1:=hb1.size;clear hb1;have hcv:=fun W=>Jh W (w1.heap.size+1) 1 85;obtain⟨W3,hW3⟩:∃W3,W3=((w1.alloc (.cells #[.int .u8 85,nm,.slice A9 fs.length c9] 143)).alloc (.cells #[.int .u8 85] 5)).alloc (.cells #[kb,([85]:List UInt8),.slice none 0 0,.slice none 0 0] 148):=⟨_,rfl⟩
 have hz3:W3.heap.size=w1.heap.size+3:=ev;have b13:Below w1 w1 W3:=fB
 have HS3:=Aa (show Eg (w1.heap.size+3) (w1.heap.size+2) W3 kb ([85]:List UInt8) (.slice none 0 0) (.slice none 0 0) (.slice none 0 0) (.slice none 0 0) [] []from by
  have:=Eg.new (W:=(w1.alloc (.cells #[.int .u8 85,nm,.slice A9 fs.length c9] 143)).alloc (.cells #[.int .u8 85] 5)) (T:=148) kb ([85]:List UInt8);rw[<-hW3]at this;simpa using this)
 have HR3:=Aa (HR1.o.below b13);have Hg3:=@Aa (w.grownBy W3 (some g)) (Cb (Hb1.o.trans (b13.mono Hb1.o.size)) _);have HX3:=@Aa (Gj W3 xv xs) (HSc.o.below (Hb1.o.trans (b13.mono Hb1.o.size)));have X2:=@Aa (W3.cell? (w1,2)=some (.slice A9 fs.length c9)) eD;have HF3:=Aa (HFd.o W3 HX3.o);have Hw3:=Aa hW3;clear hW3 b13 HR1;obtain⟨A5,cc5,e5,hl5,hr5⟩:=HFd.o w1 (HSc.o.below Hb1.o);injection e5 with e5 _ e6;subst e5 e6;obtain⟨b5,o5,rfl,hb5,x0,x1,x2,x3⟩:=D8.at_ hr5 hn0;have Hf0:=Aa (ae hn0);generalize fs[0]=f0 at x0 x1 x2 x3 Hf0;simp only[Nat.zero_mul,Nat.add_zero]at x0 x1 x2 x3;have nb0:¬(b5=w1.heap.size):=aI;have nb1:¬(b5=w1.heap.size+1):=aI;have nb2:¬(b5=w1.heap.size+1+1):=aI;have lb1:b5<w1.heap.size+1:=aI;have lb2:b5<w1.heap.size+1+1:=aI;have hn0i:(0:Int)<(fs.length:Int):=aI;go_upto_region 10 with fail
 rw[<-Hw3.o];clear hcv;obtain⟨W4,hW4⟩:∃W4,W4=(W3.alloc (.cells #[(f0.tag:Int),f0.name,.string ⟨(Be f0.kind).toArray⟩,f0.given] 157)).drew:=⟨_,rfl⟩
 have b34:Below W3 W3 W4:=by rw[hW4];exact((Aq _ _).alloc (Al _) _).drew
 have hz4:W4.heap.size=w1.heap.size+4:=by rw[hW4];simp;omega
 have HS4:=Aa (HS3.o.after b34);have HR4:=Aa (HR3.o.below b34);have Hg4:=Aa (Ad Hg3.o (Cb b34 _));have T4:=Aa (show W4.there (w1.heap.size+3) 0 4 by rw[hW4,<-hz3];have h9:=Cu W3 (sfc f0) 157;exact An h9 (show W3.heap.size<(W3.alloc (.cells (sfc f0).toArray 157)).heap.size by simp) (Aq _ _).drew);have X4:=Aa ((b34.cell (p:=⟨w1.heap.size,2,none⟩) (show w1.heap.size<W3.heap.size by omega)).trans X2.o);have HF4:=@Aa (D8 W4 (.slice (some ⟨b5,o5,none⟩) fs.length c9) fs) (HF3.o.below b34);have HW4:=Aa hW4;clear hW4 b34 Hw3 x0 x1 x2 x3 HS3 HR3 Hg3 X2 HF3;refine Xa [55,56,57,58,59,60,61,62,63,999]
  (fun ix v W=>match ix with|0=>v=(w1,2)|1=>v=.slice (some ⟨b5,o5,none⟩) fs.length c9|2=>v=g|3=>v=(w1,2)|4=>v=.slice (some ⟨b5,o5,none⟩) fs.length c9|5=>v=(fs.length:Int)|6=>∃x:Nat,v=(x:Int)/\x<fs.length|7=>∃x:Nat,x<fs.length/\v=.pointer (some ⟨b5,o5+x*4,none⟩)|8=>∃f∈fs,v=.agg #[(f.tag:Int),f.name,.string ⟨(Be f.kind).toArray⟩,f.given]|_=>True)
  (fun L U W=>(L 6=false->W=W4)/\(L 6=true->L 9=false->E4 W g (p+1)/\W4.grownBy W (some g))/\(L 9=true->∃f∈fs,∃W8,W=W8.setCells (w1.heap.size+3) 0 (sfc f)/\E4 W8 g (p+1)/\W4.grownBy W8 (some g))) (by rw[<-HW4.o];exact⟨fun _=>rfl,fun h=>Bool.noConfusion h,fun h=>Bool.noConfusion h⟩) ?_ ?_
 ·repeat (first|exact Bb.nil|(refine Bb.cons ?_ ?_;rotate_left))
  all_goals
   rintro L U W hL hpre HR Hdep K hK;first|(simp[Region.binds]at hpre;done)|simp[Region.binds]at hpre|clear hpre
  ·exact fP
  ·have h9:L 9=false:=Ct Hdep.o 9 8 rfl (Ct Hdep.o 8 7 rfl (Ct Hdep.o 7 1 rfl hL));have x2:W.cell? (w1,2)=some (.slice (some ⟨b5,o5,none⟩) fs.length c9):=by
    cases e6:L 6 with
    |false=>rw[HR.o.1 e6];exact X4.o
    |true=>exact(HR.o.2.1 e6 h9).2.cell X4.o (fun e=>by injection e with e;simp only at e;omega)
   exact jd
  iterate 2
   ·exact fP
  ·have h9:L 9=false:=Ct Hdep.o 9 8 rfl (Ct Hdep.o 8 7 rfl (Ct Hdep.o 7 6 rfl (Ct Hdep.o 6 5 rfl (Ct Hdep.o 5 4 rfl hL))));have x2:W.cell? (w1,2)=some (.slice (some ⟨b5,o5,none⟩) fs.length c9):=by
    cases e6:L 6 with
    |false=>rw[HR.o.1 e6];exact X4.o
    |true=>exact(HR.o.2.1 e6 h9).2.cell X4.o (fun e=>by injection e with e;simp only at e;omega)
   exact jd
  ·exact fP
  ·have h9:L 9=false:=Ct Hdep.o 9 8 rfl (Ct Hdep.o 8 7 rfl (Ct Hdep.o 7 6 rfl hL));have hW:=HR.o.1 hL;subst hW;go_simp;refine(Bn g p (fs.length:Int) _ HR4.o aI aI aI).mono ?_;rintro e w5 ⟨x,rfl,hx1,_,hR5,hg5⟩;exact hK _ _ _ ⟨x,rfl,by omega⟩ Ae ⟨fun h=>by simp at h,fun _ _=>⟨hR5,hg5⟩,fun h=>absurd (h9.symm.trans aU) aL⟩ aJ
  ·obtain⟨x,u6,hx⟩:∃x:Nat,U 6=(x:Int)/\x<fs.length:=eH;have u1:U 1=.slice (some ⟨b5,o5,none⟩) fs.length c9:=eG;have i1:(0:Int)<=(x:Int):=aI;have i2:(x:Int)<(fs.length:Int):=aI;simp only[u6,u1];go_simp;exact hK _ _ _ ⟨x,hx,rfl⟩ Ae HR.o (by simp[Act.put,hpre,u6,u1])
  ·obtain⟨x,hx,u7⟩:∃x:Nat,x<fs.length/\U 7=.pointer (some ⟨b5,o5+x*4,none⟩):=dg;have l7:L 7=true:=dZ;have l6:L 6=true:=Sm (Ct Hdep.o 7 6 rfl) l7;have h9:L 9=false:=Ct Hdep.o 9 8 rfl hL;obtain⟨hR5,hg5⟩:=HR.o.2.1 l6 h9;obtain⟨A5,c5,e5,hl5,hr5⟩:=HF4.o.grown HR4.o hg5;injection e5 with e5 _ e6;subst e5 e6;obtain⟨b6,o6,eA6,_,y0,y1,y2,y3⟩:=D8.at_ hr5 hx;injection eA6 with eA6;injection eA6 with e7 e8;subst e7 e8;simp only[u7];go_simp;exact hK _ _ _ ⟨_,ae hx,rfl⟩ Ae HR.o (by simp[Act.put,hpre,u7])
  ·obtain⟨f,hf,u8⟩:∃f∈fs,U 8=.agg #[(f.tag:Int),f.name,.string ⟨(Be f.kind).toArray⟩,f.given]:=by first|exact hpre.2|exact hpre.1.2|exact hpre.2.2|exact hpre
   have l8:L 8=true:=by first|exact hpre.1|exact hpre.2.1|exact hpre.1.1
   have l7:L 7=true:=Sm (Ct Hdep.o 8 7 rfl) l8;have l6:L 6=true:=Sm (Ct Hdep.o 7 6 rfl) l7;obtain⟨hR5,hg5⟩:=HR.o.2.1 l6 hL;rw[if_pos dm];refine wp_store_mid 157 _ _ rfl (w1.heap.size+3) 0 (sfc f).toArray rfl u8 (Qa7 T4.o aI hg5 (fun e=>by injection e with e;omega)) aN (by simp[sfc,Value.oneCell']) ?_;exact hK undef _ _ Ae Ae ⟨fun h=>absurd (l6.symm.trans aU) aL,fun _ h=>by simp at h,fun _=>⟨f,hf,W,rfl,hR5,hg5⟩⟩ rfl
 rintro L U W hL hφ hR;clear hφ;obtain⟨f,hf,W8,rfl,hR8,hg8⟩:=hR.2.2 (hL 9 aL);have HS8:=HS4.o.gr hg8 aI;have T8:=Qa7 T4.o aI hg8 (fun e=>by injection e with e;omega);obtain⟨W9,hW9⟩:∃W9,W9=W8.setCells (w1.heap.size+3) 0 (sfc f):=⟨_,rfl⟩
 have hgc:W8.grownBy W9 (some (w1.heap.size+3)):=by rw[hW9];exact Po _ _ _ _
 have HS9:=Aa (HS8.far hgc);have HR9:=Aa (hR8.row hgc (base:=w1.heap.size+3) (fun k e=>by injection e with e;omega) aI);have Hg9:=Aa (Fr (Ad Hg4.o hg8) hgc (base:=w1.heap.size+3) (fun k e=>by injection e with e;omega) aI);have LF9:=Aa (show w1.heap.size+3<W9.heap.size by have:=hg8.size;have:=hgc.size;omega);have RF9:=Aa (show W9.rangeAt (w1.heap.size+3) 0 (sfc f)by rw[hW9];exact aa _ _ _ _ T8);rw[<-hW9];clear hW9 hgc T8 HS8 hR8 hg8 hR hL;have HCf:=Aa (HH0.o f hf);have Hf:=Aa hf;clear hf;have z0:=Ab RF9.o 0 rfl;have z2:=Ab RF9.o 2 rfl;simp only[am]at z0 z2;have y2:=HS9.o.c2;have y2f:=HS9.o.bk.live 2;have ly:=HS9.o.lt;have lF:=LF9.o;have nBF:¬(w1.heap.size+3=w1.heap.size+2):=aI;have nB9:¬(w1.heap.size+2=W9.heap.size):=aI;have nF9:¬(w1.heap.size+3=W9.heap.size):=aI;have hwd:IntKind.i64.wrap (d - 1)=d - 1:=IntWalk.i64_in _ aI;have hE:(W9.setCell ⟨w1.heap.size+1+1,2,none⟩ (.slice (some ⟨W9.heap.size,0,none⟩) 1 1)).alloc (.cells #[(f.tag:Int)] 3)=(W9.alloc (.cells #[(f.tag:Int)] 3)).setCell ⟨w1.heap.size+2,2,none⟩ (.slice (some ⟨W9.heap.size,0,none⟩) 1 1):=by
  have ly2:w1.heap.size+1+1<W9.heap.size:=ly;show _=(W9.alloc (.cells #[(f.tag:Int)] 3)).setCell ⟨w1.heap.size+1+1,2,none⟩ (.slice (some ⟨W9.heap.size,0,none⟩) 1 1);go_simp
 have HE9:=Aa hE;clear hE;go_wp2_with fail;obtain⟨WC,hWC⟩:∃WC,WC=(W9.alloc (.cells #[(f.tag:Int)] 3)).setCell ⟨w1.heap.size+2,2,none⟩ (.slice (some ⟨W9.heap.size,0,none⟩) 1 1):=⟨_,rfl⟩
 have hzC:WC.heap.size=W9.heap.size+1:=by rw[hWC];simp
 have HSC:=@Aa (Eg (w1.heap.size+3) (w1.heap.size+2) WC kb ([85]:List UInt8) (.slice (some ⟨W9.heap.size,0,none⟩) 1 1) (.slice (some ⟨W9.heap.size,0,none⟩) 1 1) (.slice none 0 0) (.slice none 0 0) [f.tag] []) (by rw[hWC];exact HS9.o.putT f.tag);have HRC:=Aa (show E4 WC g (p+1)by rw[hWC];exact(HR9.o.dalloc _).row (Ai _ (w1.heap.size+2) 2 _) (base:=w1.heap.size+2) (fun k e=>by injection e with e;omega) aI);have HgC:=Aa (show w.grownBy WC (some g)by rw[hWC];exact Fr (Ad Hg9.o (World.grownBy_alloc W9 _ _)) (Ai _ (w1.heap.size+2) 2 _) (base:=w1.heap.size+2) (fun k e=>by injection e with e;omega) aI);have HXC:=@Aa (Gj WC xv xs) (HSc.o.grown HR.o HgC.o);rw[HE9.o,<-hWC];clear hWC z0 z2 y2 y2f ly lF nBF nB9 nF9;refine(HCf.o g (p+1) WC HXC.o HRC.o aI).mono ?_;rintro e w5 ⟨b6,v6,q6,rfl,k1,k2,k3,k4,k5,k6⟩;have HS5:=Aa (HSC.o.gr k6 aI);have y3:=HS5.o.c3;have y3f:=HS5.o.bk.live 3;have ly5:=HS5.o.lt;have nB5:¬(w1.heap.size+2=w5.heap.size):=aI;have K1:=Aa k1;have K4:=Aa k4;have K5:=Aa k5;have Hg5:=Aa (Ad HgC.o k6);clear k1 k4 k5 k6;have hE:(w5.setCell ⟨w1.heap.size+1+1,3,none⟩ (.slice (w5,0) 1 1)).alloc (.cells #[b6] 76)=(w5.alloc (.cells #[b6] 76)).setCell ⟨w1.heap.size+2,3,none⟩ (.slice (w5,0) 1 1):=by
  have ly2:w1.heap.size+1+1<w5.heap.size:=ly5;show _=(w5.alloc (.cells #[b6] 76)).setCell ⟨w1.heap.size+1+1,3,none⟩ (.slice (w5,0) 1 1);go_simp
 have HE5:=Aa hE;clear hE;go_wp2_with fail;go_ret;rw[HE5.o];have lF9:=LF9.o;have hdl:=C9 2 f.tag (by have:=Hh2.o f Hf.o;omega);refine⟨w1.heap.size+2,.mk 85 [] f.tag [v6],q6,rfl,Hok.o f Hf.o v6 K1.o,by rw[Qo];simp[Jo];omega,by omega,?_,(K5.o.dalloc _).row (Ai _ (w1.heap.size+2) 3 _) (base:=w1.heap.size+2) (fun k e=>by injection e with e;omega) aI,Fr (Ad Hg5.o (World.grownBy_alloc w5 _ _)) (Ai _ (w1.heap.size+2) 3 _) (base:=w1.heap.size+2) (fun k e=>by injection e with e;omega) aI⟩;exact jA
end
structure PkS(w1:World)(g q:Nat)(code:List UInt8)(ls:List (List UInt8))(tb pk ix:Bool)(W:World):Prop where
 gr:w1.grownBy W (some g)
 rd:Nt W g (if pk then q+1 else q) code
 sz:W.heap.size=w1.heap.size+(if tb then 1 else 0)
 tr:tb=true->Jw W w1.heap.size ls
 ox:ix=true->tb=true
section
variable {w1 W:World} {g q:Nat} {code:List UInt8} {ls:List (List UInt8)} {tb pk ix:Bool}
theorem PkS.start(h:Nt w1 g q code):PkS w1 g q code ls false false false w1.drew:=⟨Fu (Cb (Aq _ _) _),h,rfl,fun h=>Bool.noConfusion h,fun h=>Bool.noConfusion h⟩
theorem PkS.lt(h:PkS w1 g q code ls tb pk ix W)(hg:g<w1.heap.size):∀b o k,b<w1.heap.size->¬(b=g)->W.cell? ⟨b,o,k⟩=w1.cell? ⟨b,o,k⟩:=fun b o k hb hne=>
 World.cell?_of_block (a:=⟨b,o,k⟩) (h.gr.block b hb fun e=>hne (Option.some.inj e))
theorem PkS.lay(h:PkS w1 g q code ls false pk ix W):W.heap.size=w1.heap.size/\PkS w1 g q code ls true pk ix (W.alloc (.cells (Bz ls).toArray 9)):=by
 have e:W.heap.size=w1.heap.size:=h.sz
 refine⟨e,Ad h.gr (World.grownBy_alloc W _ _),h.rd.below ((Aq _ _).alloc (Al _) _),by simp[e],fun _=>?_,fun _=>rfl⟩
 rw[<-e]
 exact Jw.new W ls
theorem PkS.pick(h:PkS w1 g q code ls tb false ix W)(hg:g<w1.heap.size){w':World}(hw:Qeg W g q w'):PkS w1 g q code ls tb true ix w':=by
 obtain⟨k,rfl⟩:=hw
 obtain⟨h1,h2⟩:=N5 h.rd k
 refine⟨Ad h.gr h2,h1,by simpa using h.sz,fun e=>(h.tr e).grown h2 (by omega),h.ox⟩
theorem PkS.at_(h:PkS w1 g q code ls tb pk ix W)(ht:tb=true):PkS w1 g q code ls tb pk true W:=⟨h.gr,h.rd,h.sz,h.tr,fun _=>ht⟩
theorem PkS.txt(h:PkS w1 g q code ls tb pk ix W)(hx:ix=true){y:Nat}{tx:List UInt8}(hy:ls[y]?=some tx):W.cell? ⟨w1.heap.size,y,none⟩=some (.string ⟨tx.toArray⟩):=by
 have:=h.tr (h.ox hx)
 unfold Jw at this
 simp[World.cell?,this,Bz,hy]
end
def PK(w1:World)(g q:Nat)(code:List UInt8)(ls:List (List UInt8))(t p x:Nat)(l:Nat->Bool)(u:Nat->Value)(W:World):Prop:=PkS w1 g q code ls (l t) (l p) (l x) W
theorem PK.to{w1 W:World}{g q:Nat}{code:List UInt8}{ls:List (List UInt8)}{t p x:Nat}{l:Nat->Bool}{u:Nat->Value}(h:PK w1 g q code ls t p x l u W):PkS w1 g q code ls (l t) (l p) (l x) W:=h
section
variable {P:Program} {ops:Array Oper} {Q:Exit->Act->World->Prop} {a:Act} {mk:(Nat->Value)->Act} {G:World->Prop} {w1:World} {g q:Nat} {code:List UInt8} {ls:List (List UInt8)} {t p x:Nat}
theorem rgP{id:Nat}(ls:List (List UInt8))(t p x:Nat){w:World}(hR:Nt w g q code)(h:Sq P ops Q a mk (PK w g q code ls t p x) (fun W=>∀b o k,b<w.heap.size->¬(b=g)->W.cell? ⟨b,o,k⟩=w.cell? ⟨b,o,k⟩) ops.toList 0 [])
  (hc:(P.follows .mixedOrders && (List.range ops.size).all (fun i=>((ops[i]?).map fun o=>o.after.all fun e=>!Region.binds .any e || decide (e.on<i)).getD true) && Fp a.tmps.size ops.toList (C7 ops.toList))=true:=by kernel_rfl)
  (hmk:∀u,Bl a (C7 ops.toList) u=mk u:=by intro u;dsimp only[Bl,C7,Bk,List.set,Nat.zero_add,Nat.reduceAdd,List.length_cons,List.length_nil]):(Code.region id ops true).wp P Q a w:=
 rgF (PK w g q code ls t p x) _ (fun _ _ _ h=>PkS.lt h hR.any.lt) (PkS.start hR) h hc hmk
variable {o:Oper} {os:List Oper} {i:Nat} {ps:List (Value->Prop)} {v:Value}
theorem Qq2(k:Sq P ops Q a mk (PK w1 g q code ls t p x) G os (i+1) (ps++[fun z=>z=v]))(h:St P ops Q a mk (PK w1 g q code ls t p x) G i o ps (fun z=>z=v):=by
  intro l u W hl hp hF hG hi K9 hK
  have h:=PK.to hF.o
  rw[hl]at h
  obtain⟨hs,hn⟩:=h.lay
  have hn:=Aa hn
  first|(simp[Region.binds,Co]at hp;done)|simp[Region.binds,Co]at hp|clear hp
  clear hG hi hF h
  go_simp
  exact hK _ _ _ rfl hn.o (by first|rfl|(simp[Act.put,hp];done)|(simp[Act.put,hp];exact rfl))):Sq P ops Q a mk (PK w1 g q code ls t p x) G (o::os) i ps:=⟨_,h,k⟩
theorem Qrb{C:World->Prop}(hg:g<w1.heap.size)(X:∀W,Nt W g q code->C W)(k:Sq P ops Q a mk (PK w1 g q code ls t p x) G os (i+1) (ps++[fun z=>z=v]))(h:g<w1.heap.size->(∀W,Nt W g q code->C W)->St P ops Q a mk (PK w1 g q code ls t p x) G i o ps (fun z=>z=v):=by
  intro hg X l u W hl hp hF hG hi K9 hK
  have h:=PK.to hF.o
  rw[hl]at h
  have HX:=X W h.rd
  have Hh:=Aa (fun w' (hw:Qeg W _ _ w')=>h.pick hg hw)
  first|(simp[Region.binds,Co]at hp;done)|simp[Region.binds,Co]at hp|clear hp
  clear hG hi hF h
  go_simp
  refine HX.mono ?_
  rintro e w' ⟨rfl,hw⟩
  exact hK _ _ _ rfl (Hh.o _ hw) (by first|rfl|(simp[Act.put,hp];done)|(simp[Act.put,hp];exact rfl))):Sq P ops Q a mk (PK w1 g q code ls t p x) G (o::os) i ps:=⟨_,h hg X,k⟩
theorem Qq0(k:Sq P ops Q a mk (PK w1 g q code ls t p x) G os (i+1) (ps++[fun z=>z=v]))(h:St P ops Q a mk (PK w1 g q code ls t p x) G i o ps (fun z=>z=v):=by
  intro l u W hl hp hF hG hi K9 hK
  have h:=PK.to hF.o
  simp[Region.binds,Co]at hp
  have hn:=Aa (h.at_ (by simp[hp]))
  clear hG hi hF h
  go_simp
  exact hK _ _ _ rfl hn.o (by first|rfl|(simp[Act.put,hp];done)|(simp[Act.put,hp];exact rfl))):Sq P ops Q a mk (PK w1 g q code ls t p x) G (o::os) i ps:=⟨_,h,k⟩
theorem Qre{y:Nat}{tx:List UInt8}(hy:ls[y]?=some tx)(k:Sq P ops Q a mk (PK w1 g q code ls t p x) G os (i+1) (ps++[fun z=>z=v]))(h:ls[y]?=some tx->St P ops Q a mk (PK w1 g q code ls t p x) G i o ps (fun z=>z=v):=by
  intro hy l u W hl hp hF hG hi K9 hK
  have h:=PK.to hF.o
  simp[Region.binds,Co]at hp
  have hx:=h.txt (by simp[hp]) hy
  have hn:=Aa h
  clear hG hi hF h
  go_simp
  exact hK _ _ _ rfl hn.o (by first|rfl|(simp[Act.put,hp];done)|(simp[Act.put,hp];exact rfl))):Sq P ops Q a mk (PK w1 g q code ls t p x) G (o::os) i ps:=⟨_,h hy,k⟩
theorem sqZ{R:(Nat->Bool)->(Nat->Value)->World->Prop}(k:Sq P ops Q a mk R G os (i+1) (ps++[fun z=>z=v]))(h:St P ops Q a mk R G i o ps (fun z=>z=v):=by
  intro l u W hl hp hF hG hi K hK
  first|(simp[Region.binds,Co]at hp;done)|simp[Region.binds,Co]at hp|clear hp
  go_simp
  rw[if_neg (by simp;omega)]
  go_simp
  exact hK _ _ _ rfl hF.o (by first|rfl|(simp[Act.put,hp];done)|(simp[Act.put,hp];exact rfl))):Sq P ops Q a mk R G (o::os) i ps:=⟨_,h,k⟩
theorem dnP{b:Act}(h:∀W,Hid (PkS w1 g q code ls true true true W)->Q .normal b W)(hi:t<i/\p<i/\x<i)(e:∀u,N6 ps 0 u->mk u=b:=by
  intro u h
  simp only[N6,List.nil_append,List.cons_append,Nat.zero_add,Nat.reduceAdd]at h
  simp only[h]
  exact rfl):Sq P ops Q a mk (PK w1 g q code ls t p x) G [] i ps:=fun l u W hl hu hF=>by
 have hF:=PK.to hF
 rw[hl t hi.1,hl p hi.2.1,hl x hi.2.2]at hF
 rw[e u hu]
 exact h W hF
end
structure PqS(w1:World)(g q:Nat)(code:List UInt8)(pk:Bool)(W:World):Prop where
 gr:w1.grownBy W (some g)
 rd:Nt W g (if pk then q+1 else q) code
def PQ(w1:World)(g q:Nat)(code:List UInt8)(p:Nat)(l:Nat->Bool)(u:Nat->Value)(W:World):Prop:=PqS w1 g q code (l p) W
theorem PQ.to{w1 W:World}{g q:Nat}{code:List UInt8}{p:Nat}{l:Nat->Bool}{u:Nat->Value}(h:PQ w1 g q code p l u W):PqS w1 g q code (l p) W:=h
theorem PqS.below{w1 W W':World}{g q:Nat}{code:List UInt8}{pk:Bool}(h:PqS w1 g q code pk W)(hb:Below W.heap.size W W'):PqS w1 g q code pk W':=
 ⟨Ad h.gr (Cb hb _),h.rd.below hb⟩
theorem PqS.pick{w1 W w':World}{g q:Nat}{code:List UInt8}(h:PqS w1 g q code false W)(hw:Qeg W g q w'):PqS w1 g q code true w':=by
 obtain⟨k,rfl⟩:=hw
 obtain⟨h1,h2⟩:=N5 h.rd k
 exact⟨Ad h.gr h2,h1⟩
section
variable {P:Program} {ops:Array Oper} {Q:Exit->Act->World->Prop} {a:Act} {mk:(Nat->Value)->Act} {G:World->Prop} {w1:World} {g q:Nat} {code:List UInt8} {p:Nat}
theorem rgQ{id:Nat}(p:Nat){w:World}(hR:Nt w g q code)(h:Sq P ops Q a mk (PQ w g q code p) (fun W=>∀b o k,b<w.heap.size->¬(b=g)->W.cell? ⟨b,o,k⟩=w.cell? ⟨b,o,k⟩) ops.toList 0 [])
  (hc:(P.follows .mixedOrders && (List.range ops.size).all (fun i=>((ops[i]?).map fun o=>o.after.all fun e=>!Region.binds .any e || decide (e.on<i)).getD true) && Fp a.tmps.size ops.toList (C7 ops.toList))=true:=by kernel_rfl)
  (hmk:∀u,Bl a (C7 ops.toList) u=mk u:=by intro u;dsimp only[Bl,C7,Bk,List.set,Nat.zero_add,Nat.reduceAdd,List.length_cons,List.length_nil]):(Code.region id ops true).wp P Q a w:=
 rgF (PQ w g q code p) _ (fun _ _ W h b o k hb hne=>World.cell?_of_block (a:=⟨b,o,k⟩) ((PQ.to h).gr.block b hb fun e=>hne (Option.some.inj e))) ⟨Fu (Cb (Aq _ _) _),hR⟩ h hc hmk
variable {o:Oper} {os:List Oper} {i:Nat} {ps:List (Value->Prop)} {v:Value}
theorem Qp7{C:World->Prop}(X:∀W,Nt W g q code->C W)(k:Sq P ops Q a mk (PQ w1 g q code p) G os (i+1) (ps++[fun z=>z=v]))(h:(∀W,Nt W g q code->C W)->St P ops Q a mk (PQ w1 g q code p) G i o ps (fun z=>z=v):=by
  intro X l u W hl hp hF hG hi K9 hK
  have h:=PQ.to hF.o
  rw[hl]at h
  have HX:=X W h.rd
  have Hh:=Aa (fun w' (hw:Qeg W _ _ w')=>h.pick hw)
  first|(simp[Region.binds,Co]at hp;done)|simp[Region.binds,Co]at hp|clear hp
  clear hG hi hF h
  go_simp
  refine HX.mono ?_
  rintro e w' ⟨rfl,hw⟩
  exact hK _ _ _ rfl (Hh.o _ hw) (by first|rfl|(simp[Act.put,hp];done)|(simp[Act.put,hp];exact rfl))):Sq P ops Q a mk (PQ w1 g q code p) G (o::os) i ps:=⟨_,h X,k⟩
theorem sqQ{C:World->Prop}(X:∀W,w1.grownBy W (some g)->C W)(k:Sq P ops Q a mk (PQ w1 g q code p) G os (i+1) (ps++[fun z=>z=v]))(h:(∀W,w1.grownBy W (some g)->C W)->St P ops Q a mk (PQ w1 g q code p) G i o ps (fun z=>z=v):=by
  intro X l u W hl hp hF hG hi K9 hK
  have h:=PQ.to hF.o
  have HX:=X W h.gr
  have Hh:=Aa (fun w' (hw:Below W.heap.size W w')=>h.below hw)
  first|(simp[Region.binds,Co]at hp;done)|simp[Region.binds,Co]at hp|clear hp
  clear hG hi hF h
  go_simp
  refine HX.mono ?_
  rintro e w' ⟨rfl,hw⟩
  exact hK _ _ _ rfl (Hh.o _ hw) (by first|rfl|(simp[Act.put,hp];done)|(simp[Act.put,hp];exact rfl))):Sq P ops Q a mk (PQ w1 g q code p) G (o::os) i ps:=⟨_,h X,k⟩
theorem dnQ{b:Act}(h:∀W,Hid (PqS w1 g q code true W)->Q .normal b W)(hi:p<i)(e:∀u,N6 ps 0 u->mk u=b:=by
  intro u h
  simp only[N6,List.nil_append,List.cons_append,Nat.zero_add,Nat.reduceAdd]at h
  simp only[h]
  exact rfl):Sq P ops Q a mk (PQ w1 g q code p) G [] i ps:=fun l u W hl hu hF=>by
 have hF:=PQ.to hF
 rw[hl p hi]at hF
 rw[e u hu]
 exact h W hF
end
section
attribute [local go_sem] Qra Qpu Qo3 Qmi ByteArray.mk_append_mk
structure Sd(S:List Ty)(N B:Nat)(fs:List Fd)(k:Nat)(ps:List (Fd × Vl)):Prop where
 at_:∀r∈ps,∃i,i<k/\fs[i]?=some r.1
 ok:∀r∈ps,Ge S N r.1.kind r.2
 ne:∀r∈ps,Aw r.2≠Kr S r.1
 le:∀r∈ps,(Aw r.2).length<=B
 pw:ps.Pairwise fun a b=>a.1.tag<b.1.tag
 ln:ps.length<=k
section
variable {S:List Ty} {N B:Nat} {fs:List Fd} {k:Nat} {ps:List (Fd × Vl)}
theorem Sd.nil:Sd S N B fs 0 []:=⟨by simp,by simp,by simp,by simp,.nil,by simp⟩
theorem Sd.skip(h:Sd S N B fs k ps):Sd S N B fs (k+1) ps:=
 ⟨fun r hr=>by obtain⟨i,h1,h2⟩:=h.at_ r hr;exact⟨i,by omega,h2⟩,h.ok,h.ne,h.le,h.pw,by have:=h.ln;omega⟩
theorem Sd.add(h:Sd S N B fs k ps)(hk:k<fs.length)(hpw:fs.Pairwise fun a b=>a.tag<b.tag){v:Vl}(h1:Ge S N fs[k].kind v)(h2:Aw v≠Kr S fs[k])(h3:(Aw v).length<=B):Sd S N B fs (k+1) (ps++[(fs[k],v)]):=by
 have key:∀{P:Fd × Vl->Prop},(∀r∈ps,P r)->P (fs[k],v)->∀r∈ps++[(fs[k],v)],P r:=fun ha hb r hr=>by
  rcases af.1 hr with hr|hr
  ·exact ha r hr
  rw[ar]at hr;subst hr;exact hb
 refine⟨key (fun r hr=>by obtain⟨i,h1,h2⟩:=h.at_ r hr;exact⟨i,by omega,h2⟩) ⟨k,by omega,List.getElem?_eq_getElem hk⟩,key h.ok h1,key h.ne h2,key h.le h3,?_,by have:=h.ln;simp;omega⟩;rw[List.pairwise_append];refine⟨h.pw,List.pairwise_singleton _ _,fun a ha b hb=>?_⟩;rw[ar]at hb;subst hb;obtain⟨i,hi,e⟩:=h.at_ a ha;obtain⟨hil,e⟩:=List.getElem?_eq_some_iff.1 e;have:=(List.pairwise_iff_getElem.1 hpw) i k hil hk hi;rw[e]at this;exact this
theorem Sd.mem(h:Sd S N B fs k ps):∀r∈ps,r.1∈fs:=fun r hr=>by
 obtain⟨i,_,e⟩:=h.at_ r hr;obtain⟨hil,e⟩:=List.getElem?_eq_some_iff.1 e;rw[<-e];exact ae hil
theorem Sd.len(h:Sd S N B fs k ps)(h200:∀f∈fs,f.tag<=200)(hk:k<=8):(Aw (.mk 82 [] 0 (ps.map Ea))).length<=8*B+100:=by
 have key:∀(qs:List (Fd × Vl)),(∀r∈qs,r.1.tag<=200/\(Aw r.2).length<=B)->Du (qs.map fun r=>Aw (Ea r))<=qs.length*(B+5):=by
  intro qs;induction qs with
  |nil=>intro _;simp[Du]
  |cons r qs ih=>
   intro hq;have h1:=ih fun x hx=>hq x (by simp[hx]);obtain⟨h2,h3⟩:=hq r aK;have h4:(Az r.1.tag).length<=3:=C9 2 _ aI;have h5:=Jo r;rw[az,Ev,List.length_cons,Nat.succ_mul];omega
 have h1:=key ps fun r hr=>⟨h200 _ (h.mem r hr),h.le r hr⟩
 have h2:ps.length*(B+5)<=8*(B+5):=Nat.mul_le_mul_right _ (by have:=h.ln;omega);rw[Nb,List.length_cons,ah,Bs];simp only[List.length_singleton];omega
end
theorem E4.nostr{w:World}{g p b o:Nat}{x:ByteArray}(h:E4 w g p)(hc:w.cell? ⟨b,o,none⟩=some (.string x)):¬(b=g):=by
 rintro rfl;obtain⟨A,n,c,l,hh,_⟩:=h;match o with
 |0=>simp[World.cell?,hh]at hc
 |1=>simp[World.cell?,hh]at hc
 |o+2=>simp[World.cell?,hh]at hc
theorem Qcz{a b c:World}{g n:Nat}(h:a.grownBy b (some g))(hb:Below n b c)(hn:a.heap.size<=n):a.grownBy c (some g):=
 ⟨hb.os.trans h.os,hb.tape.trans h.tape,hb.output.trans h.output,ad h.size hb.size,fun k hk hne=>(hb.block k aI).trans (h.block k hk hne)⟩
theorem Qpl(xs:List (Ty × Value))(A0:Option Addr)(c0:Nat)(k:Kd)(hk:Cw k)(hsg:k.signs=[])(hbs:k.base=[64])(nm:List UInt8)(fs:List Fd)(A9:Option Addr)(c9:Nat)(hx:D9 xs k.name=some (⟨82,nm,fs⟩,.slice A9 fs.length c9))(hsco:Kt (Af xs))(htg:∀f∈fs,Ap fs f.tag=some f)(h200:∀f∈fs,f.tag<=200)(hpw:fs.Pairwise fun a b=>a.tag<b.tag)
  (hfk:∀f∈fs,Cw f.kind/\Bu (Af xs) f.kind/\f.given.length<=1000) (hn8:fs.length<=8) (d:Int) (hd:-1000<=d) (hd2:d<=1000) (N B:Nat) (hB:100<=B) (hB2:B<=100000000) (HH:0<d->∀f∈fs,Tz xs (.slice A0 xs.length c0) f.kind (d - 1) N B):DtC xs (.slice A0 xs.length c0) k d (N+1) (8*B+100):=by
 intro g p w hsc hR hp;have hgl:=hR.lt;have HR:=Aa hR;have HSc:=Aa hsc
 have Hr:=Aa (show ∀W,Gj W (.slice A0 xs.length c0) xs->Calls prog 101 #[.slice A0 xs.length c0,.string ⟨(Be k).toArray⟩] W fun e w'=>e=.returned (.tuple #[.agg #[.int .u8 82,nm,.slice A9 fs.length c9],.bool true])/\Below W W w' from fun W hW=>by
  have h:=Fb (.slice A0 xs.length c0) xs k W hW hk;rw[show Jn xs k=some (⟨82,nm,fs⟩,.slice A9 fs.length c9)from by unfold Jn;rw[if_pos ⟨hsg,hbs⟩];exact hx]at h;exact h)
 have HFd:=@Aa (∀W,Gj W (.slice A0 xs.length c0) xs->D8 W (.slice A9 fs.length c9) fs) (fun W hW=>by obtain⟨_,_,_,_,_,hf⟩:=hW;exact hf _ (Cl hx).1);have hft:=(Cl hx).2.2;have hkl:(Be k).length<=100:=bR
 have Hfin:=Aa (show ∀(n:Nat) ps,Sd (Af xs) N B fs n ps->n<=8->Ge (Af xs) (N+1) k (.mk 82 [] 0 (ps.map Ea))/\(Aw (.mk 82 [] 0 (ps.map Ea))).length<=8*B+100/\Bt (Af xs) k (.mk 82 [] 0 (ps.map Ea))=.mk (Be k) [82] (ps.map fun r=>r.1.tag) (ps.map fun r=>Bt (Af xs) r.1.kind r.2)from fun n ps h hn=>
  ⟨Ge.rcd hsg hbs hft rfl (fun r hr=>htg _ (h.mem r hr)) h.ok h.ne h.pw,h.len h200 hn,by
   rw[P2];congr 1
   exact List.map_congr_left fun r hr=>by rw[E5 hft (htg _ (h.mem r hr))]⟩)
 have Hstd:=Aa (fun f (hf:f∈fs) W (hW:Gj W (.slice A0 xs.length c0) xs)=>Ry (.slice A0 xs.length c0) xs hsco f W hW (hfk f hf).1 (hfk f hf).2.1 (hfk f hf).2.2);have Hout:=Aa (fun f (hf:f∈fs) v (hv:Ge (Af xs) N f.kind v) (hl:(Aw v).length<=B) P b W (hW:En P W b (Bt (Af xs) f.kind v))=>Zw hsco.1.1 P N f.kind v hv (hfk f hf).1 b W hW (ad hl aI));have Hpw:=Aa hpw;unfold Tz at HH;generalize Be k=kb at *;obtain⟨xv,hxv⟩:∃xv:Value,xv=.slice A0 xs.length c0:=⟨_,rfl⟩
 rw[<-hxv]at HSc Hr HFd HH Hstd ⊢;have HH0:=Aa HH;clear HH hR hsc hk hsg hbs hx hft htg h200 hfk hxv hpw;have Hsco:=Aa hsco;clear hsco;go_enter func167,ntmps167;go_wp2_with fail;refine(Hr.o _ HSc.o).mono ?_;rintro e w1 ⟨rfl,hb1⟩;have HR1:=Aa (HR.o.below hb1);have Hb1:=Aa hb1;have hz1:=hb1.size;clear hb1;have hcv:=fun W=>Jh W (w1.heap.size+1) 1 82;obtain⟨W3,hW3⟩:∃W3,W3=((w1.alloc (.cells #[.int .u8 82,nm,.slice A9 fs.length c9] 143)).alloc (.cells #[.int .u8 82] 5)).alloc (.cells #[kb,([82]:List UInt8),.slice none 0 0,.slice none 0 0] 148):=⟨_,rfl⟩
 have hz3:W3.heap.size=w1.heap.size+3:=ev;have b13:Below w1 w1 W3:=fB
 have HS3:=Aa (show Eg (w1.heap.size+3) (w1.heap.size+2) W3 kb ([82]:List UInt8) (.slice none 0 0) (.slice none 0 0) (.slice none 0 0) (.slice none 0 0) [] []from by
  have:=Eg.new (W:=(w1.alloc (.cells #[.int .u8 82,nm,.slice A9 fs.length c9] 143)).alloc (.cells #[.int .u8 82] 5)) (T:=148) kb ([82]:List UInt8);rw[<-hW3]at this;simpa using this)
 have HR3:=Aa (HR1.o.below b13);have Hg3:=@Aa (w.grownBy W3 (some g)) (Cb (Hb1.o.trans (b13.mono Hb1.o.size)) _);have HX3:=@Aa (Gj W3 xv xs) (HSc.o.below (Hb1.o.trans (b13.mono Hb1.o.size)));have X2:=@Aa (W3.cell? (w1,2)=some (.slice A9 fs.length c9)) eD;have Hw3:=Aa hW3;clear hW3 b13 HR1;go_upto_region 14 with fail
 rw[<-Hw3.o];clear hcv Hw3;go_wp2_with fail;go_loopw [13] (fun i wr=>∃(n q:Nat) (A2:Option Addr) (c2:Nat) (A3:Option Addr) (c3:Nat) (ps:List (Fd × Vl)) (xk:List (Nat × SV)),i=(n:Int)/\n<=fs.length/\q<=p+n*(B+1)/\Hid (Sd (Af xs) N B fs n ps)/\Hid (xk.map (·.2)=ps.map fun r=>Bt (Af xs) r.1.kind r.2)/\Hid (E4 wr g q)/\Hid (w.grownBy wr (some g))/\Hid (Eg (w1.heap.size+3) (w1.heap.size+2) wr kb ([82]:List UInt8) (.slice A2 ps.length c2) (.slice A2 ps.length c2) (.slice A3 xk.length c3) (.slice A3 xk.length c3) (ps.map fun r=>r.1.tag) xk)/\Hid (wr.cell? (w1,2)=some (.slice A9 fs.length c9))) (fun i _=>fs.length - (intOf i).toNat)
 case atStart=>exact⟨0,p,none,0,none,0,[],[],rfl,ag _,by omega,Sd.nil,rfl,HR3.o,Hg3.o,HS3.o,X2.o⟩
 case round=>
  obtain⟨n,q,A2,c2,A3,c3,ps,xk,rfl,hn,hq,hvs,heq,hRr,hgr,hSr,hx2⟩:=hrel;have hXr:=Aa (HSc.o.grown HR.o hgr.o);have hn0:(0:Int)<=(n:Int):=aI;have hqm:n*(B+1)<=8*(B+1):=Nat.mul_le_mul_right _ aI;have hqm7:n<fs.length->n*(B+1)<=7*(B+1):=fun h=>Nat.mul_le_mul_right _ aI;have hxp:xk.length=ps.length:=by have:=congrArg List.length heq.o;simpa using this
  have hpl:=hvs.o.ln;have hxk8:xk.length<=8:=aI;have Hxp:=Aa hxp;clear hxp;have hzr:w1.heap.size+3<=wr.heap.size:=hSr.o.bs;have x2:=hx2.o;by_cases hlt:n<fs.length;rotate_left
  ·have tt:decide ((n:Int)<(fs.length:Int))=false:=aD aI
   have HQ:=Aa (show Jt (Af xs) k (N+1) (8*B+100) w g p (.returned (w1,2,0)) wr from by
    obtain⟨f1,f2,f3⟩:=Hfin.o n ps hvs.o aI;refine⟨w1.heap.size+2,_,q,rfl,f1,f2,by omega,?_,hRr.o,hgr.o⟩;rw[f3,<-heq.o];exact(hSr.o.done (kind:=kb) (text:=[82]) aO aI).mono fun c hc _=>by omega)
   go_wp2_with fail;exact aG (v:=(w1,2,0)) (by simp[results,results167,go_sem]) rfl HQ.o
  have tt:decide ((n:Int)<(fs.length:Int))=true:=aE aI;by_cases hdp:0<d;rotate_left
  ·have td:decide ((0:Int)<d)=false:=aD hdp
   have HQ:=Aa (show Jt (Af xs) k (N+1) (8*B+100) w g p (.returned (w1,2,0)) wr from by
    obtain⟨f1,f2,f3⟩:=Hfin.o n ps hvs.o aI;refine⟨w1.heap.size+2,_,q,rfl,f1,f2,by omega,?_,hRr.o,hgr.o⟩;rw[f3,<-heq.o];exact(hSr.o.done (kind:=kb) (text:=[82]) aO aI).mono fun c hc _=>by omega)
   go_wp2_with fail;exact aG (v:=(w1,2,0)) (by simp[results,results167,go_sem]) rfl HQ.o
  have td:decide ((0:Int)<d)=true:=aE hdp;obtain⟨A5,cc5,e5,hl5,hr5⟩:=HFd.o wr hXr.o;injection e5 with e5 _ e6;subst e5 e6;obtain⟨b5,o5,rfl,hb5,x50,x51,x52,x53⟩:=D8.at_ hr5 hlt;have Hfm:=Aa (ae hlt);have Hadd:=Aa (fun v=>hvs.o.add (v:=v) hlt Hpw.o);have Hmn:=Aa (HH0.o hdp);have hqm8:=hqm7 hlt;have hwd:IntKind.i64.wrap (d - 1)=d - 1:=IntWalk.i64_in _ aI;have hni:(n:Int)<(fs.length:Int):=aI;have Hfe0:=@Aa (∃f,f=fs[n]) ⟨_,rfl⟩;obtain⟨f,hf⟩:=Hfe0.o;have Hfe:=Aa hf.symm;rw[<-hf]at x50 x51 x52 x53 Hfm Hadd;clear hf Hfe0;clear hr5;go_wp2_with fail;refine(Hmn.o f Hfm.o g q wr hXr.o hRr.o aI).mono ?_;rintro e w5 ⟨b6,v6,q6,rfl,k1,k2,k3,k4,k5,k6⟩;have hgB:g<w1.heap.size+2:=aI;have hz5:=k6.size;have HS5:=Aa (hSr.o.gr k6 hgB);have Hg5:=Aa (Ad hgr.o k6);have HX5:=Aa (HSc.o.grown HR.o Hg5.o);have K1:=Aa k1;have K2:=Aa k2;have K4:=Aa k4;have K5:=Aa k5;have HK5:=@Aa (Pq (w1.heap.size+3) (.slice A2 ps.length c2) (.slice A3 xk.length c3) w5 (b6,Bt (Af xs) f.kind v6)) (k4.mono fun c hc _=>⟨by omega,fun e=>by have:=(hSr.o.row.lt c e).2;omega,fun e=>by have:=(hSr.o.tags.lt c e).2;omega⟩);have X25:=@Aa (w5.cell? (w1,2)=some (.slice (some ⟨b5,o5,none⟩) fs.length c9)) (k6.cell hx2.o (fun e=>by injection e with e;simp only at e;omega));have Hft5:=Aa (HFd.o w5 HX5.o);clear k1 k2 k4 k5 k6 x50 x51 x52 x53 x2;go_upto_region 18 with fail
  go_cut [118]from 82 to 143 (fun b14 wx=>∃bb:Bool,b14=.bool bb/\(bb=true->Aw v6≠Kr (Af xs) f)/\Hid (E4 wx g (q6+1))/\Hid (w5.grownBy wx (some g)))
  case first=>
   obtain⟨code,hRL⟩:=K5.o.known;have HPk:=Aa (fun W (h:Nt W g q6 code)=>Qcl g q6 code 3 W h aI aI aI);have x2:=X25.o;obtain⟨A7,c7,e7,hl7,hr7⟩:=Hft5.o;injection e7 with e7 _ e8;subst e7 e8;obtain⟨b7,o7,eA7,hb7,x50,x51,x52,x53⟩:=D8.at_ hr7 hlt;injection eA7 with eA7;injection eA7 with e7 e8;subst e7 e8;rw[Hfe.o]at x50 x51 x52 x53;have hbg:=K5.o.nostr x51;have hwg:¬(w1.heap.size=g):=aI;have hw5:w1.heap.size<w5.heap.size:=aI;have HO:=Aa (fun W (hg:w5.grownBy W (some g))=>Hout.o f Hfm.o v6 K1.o K2.o _ b6 W (En.grown K4.o hg fun c hc e=>by injection e with e;have:wr.heap.size<=c:=hc;omega));have HS:=Aa (fun W (hg:w5.grownBy W (some g))=>Hstd.o f Hfm.o W (HX5.o.grown K5.o hg));unfold Dz at HO;unfold H4 at HS;have Hne:=@Aa ((Aw v6 == Kr (Af xs) f)=false->Aw v6≠Kr (Af xs) f) (fun h=>by simpa using h);generalize Aw v6=pv at *;generalize Kr (Af xs) f=ov at *;obtain⟨be,hbe⟩:∃be,(pv == ov)=be:=⟨_,rfl⟩
   rw[hbe]at Hne;generalize Vz code q6 3=y at *;clear hl7 hr7;by_cases hy:0<y
   ·have ty:decide ((0:Int)<(y:Int))=true:=aE aI;have tyi:(0:Int)<(y:Int):=aI;refine rgQ 1 hRL ?_;refine sq ?_;refine Qp7 HPk.o ?_;iterate 3 refine sq ?_
    refine sqQ HO.o ?_;iterate 6 refine sq ?_
    refine sqQ HS.o ?_;iterate 2 refine sq ?_
    refine dnQ (fun W hW=>?_) aL;go_wp2_with fail;go_meet
    exact⟨!be,rfl,fun h=>Hne.o aU,hW.o.rd.any,hW.o.gr⟩
   ·have ty:decide ((0:Int)<(y:Int))=false:=aD aI;have tyi:¬(0:Int)<(y:Int):=aI;refine rgQ 1 hRL ?_;refine sq ?_;refine Qp7 HPk.o ?_;iterate 13 refine sq ?_
    refine dnQ (fun W hW=>?_) aL;go_wp2_with fail;go_meet
    exact⟨false,rfl,fun h=>Bool.noConfusion h,hW.o.rd.any,hW.o.gr⟩
  case rest=>
   obtain⟨b14,rfl,hne,hR7,hgd⟩:=hcut;obtain⟨W,rfl⟩:∃W:World,W=wc:=⟨_,rfl⟩
   have hR7:=hR7.o;have hgd:=hgd.o;have hz7:=hgd.size;have HR7:=Aa hR7;have Hg7:=Aa (Ad Hg5.o hgd);have HS7:=Aa (HS5.o.gr hgd hgB);have HX7:=Aa (HSc.o.grown HR.o Hg7.o);have HK7:=@Aa (Pq (w1.heap.size+3) (.slice A2 ps.length c2) (.slice A3 xk.length c3) W (b6,Bt (Af xs) f.kind v6)) (En.grown HK5.o hgd fun c hc e=>by injection e with e;have:=hc.1;omega);have X27:=Aa (hgd.cell X25.o (fun e=>by injection e with e;simp only at e;omega));have Hft7:=Aa (HFd.o W HX7.o);have hq7:q6+1<=p+(n+1)*(B+1):=by rw[Nat.succ_mul];omega
   clear hR7 hgd;cases b14 with
   |false=>
    go_wp2_with fail;go_roundw
    case rel=>exact⟨n+1,q6+1,A2,c2,A3,c3,ps,xk,by go_num,by omega,hq7,hvs.o.skip,heq.o,HR7.o,Hg7.o,HS7.o,X27.o⟩
    case measure=>simp[intOf];omega
   |true=>
    have Hne:=Aa (hne rfl);have Hvs9:=Aa (Hadd.o v6 K1.o Hne.o K2.o);clear hne;go_upto_region 19 with fail
    have HS7d:=Aa (HS7.o.after (Aq _ _).drew);have HK7d:=@Aa (Pq (w1.heap.size+3) (.slice A2 ps.length c2) (.slice A3 xk.length c3) W.drew (b6,Bt (Af xs) f.kind v6)) (En.after HK7.o (Aq _ _).drew);obtain⟨A7,c7,e7,hl7,hr7⟩:=Hft7.o;injection e7 with e7 _ e8;subst e7 e8;obtain⟨b7,o7,eA7,_,y0,_,_,_⟩:=D8.at_ hr7 hlt;injection eA7 with eA7;injection eA7 with e7 e8;subst e7 e8;rw[Hfe.o]at y0;have Hcel7:=Aa y0;clear y0 hl7 hr7;refine Bm [119,120,121,122,123,124,125,126,127,128,129,130,131,132,133,999] aN aN aN (fun u=>by dsimp only[Bl,Bk,List.set,am,Nat.reduceAdd])
     (fun ix v W=>match ix with|0=>v=(w1,2,0)|1=>v=(w1,2,0)|2=>v=(w1,2,0)|3=>v=(w1,2,2)|4=>v=.slice A2 ps.length c2|5=>v=(w1,2)|6=>v=.slice (some ⟨b5,o5,none⟩) fs.length c9|7=>v=(n:Int)|8=>v=.pointer (some ⟨b5,o5+n*4,none⟩)|9=>v=.pointer (some ⟨b5,o5+n*4,none⟩)|10=>v=(f.tag:Int)|13=>v=(w1,2,0)|14=>v=(w1,2,2)|_=>True)
     (fun L U W_=>Jp (w1.heap.size+3) (w1.heap.size+2) W.drew kb ([82]:List UInt8) A2 ps.length c2 (.slice A3 xk.length c3) (ps.map fun p=>p.1.tag) xk [(b6,Bt (Af xs) f.kind v6)] f.tag (L 11) (L 12) (L 15) (U 11) (U 12) W_) (fun _ _=>True) (fun _ _ _ _ _ h=>h) (Jp.start) ?_ ?_
    ·repeat (first|exact Bb.nil|(refine Bb.cons ?_ ?_;rotate_left))
     all_goals
      rintro L U V hL hpre hR hun hdep K hK;have HR:=Aa hR;have Hdep:=Aa hdep;clear hun hdep hR;first|(simp[Region.binds]at hpre;done)|simp[Region.binds]at hpre|clear hpre
     iterate 4
      ·exact fP
     ·have h12:L 12=false:=(Ct Hdep.o 12 4 rfl hL)
      have x2:=((HR.o.be h12).cell (p:=⟨w1.heap.size+2,2,none⟩) (by have:=HS7.o.lt;simp;omega)).trans ((aC _ _).trans HS7.o.c2);exact jd
     ·exact fP
     ·have hW:=HR.o.p0 (Ct Hdep.o 11 10 rfl (Ct Hdep.o 10 9 rfl (Ct Hdep.o 9 8 rfl (Ct Hdep.o 8 6 rfl hL))));subst hW;have x2:=X27.o;exact jd
     ·exact fP
     ·obtain⟨u6,u7⟩:U 6=.slice (some ⟨b5,o5,none⟩) fs.length c9/\U 7=(n:Int):=by first|exact⟨hpre.1.2,hpre.2.2⟩|exact⟨hpre.2.2,hpre.1.2⟩|exact hpre|exact⟨hpre.1,hpre.2⟩
      simp only[u6,u7];go_simp;exact hK _ _ _ rfl Ae HR.o (by simp[Act.put,hpre,u6,u7])
     ·exact fP
     ·have hW:=HR.o.p0 (Ct Hdep.o 11 10 rfl hL);subst hW;have x2:=Hcel7.o;exact jd
     ·have h12:L 12=false:=(Ct Hdep.o 12 11 rfl hL)
      have h15:L 15=false:=(Ct Hdep.o 15 12 rfl h12)
      have hW:=HR.o.p0 hL;subst hW;go_simp;exact hK _ _ _ Ae Ae (Jp.put7 h12 h15) aJ
     ·obtain⟨lv,uv⟩:L 4=true/\U 4=.slice A2 ps.length c2:=by
       exact jn
      have l11:L 11=true:=by
       first|exact hpre.2|exact hpre.1
      have h15:L 15=false:=(Ct Hdep.o 15 12 rfl hL)
      obtain⟨hW,u11⟩:=HR.o.p1 l11 hL;subst hW;rw[if_pos dm];have hgl:(ps.map fun p=>p.1.tag).length=ps.length:=aK;refine Ml W.drew (.tmp 123) (.tmp 130) 32 rfl (w1.heap.size+3) 3 (.int .i64 0) 1 8 underlying32 Qge rfl aL [(f.tag:Int)] rfl bL (.slice A2 ps.length c2) ps.length (Dm (ps.map fun p=>p.1.tag)) uv u11 (by rw[<-hgl];exact hgl ▸ HS7d.o.tags) bc aI HS7d.o.bs ?_;intro v8 w8 hown hg hwh;obtain⟨hn,A6,c6,e6⟩:=Jp.put8 (u7:=U 11) (ks:=[(b6,Bt (Af xs) f.kind v6)]) l11 h15 HS7d.o (fun x hx=>by rw[ar]at hx;subst hx;exact HK7d.o) (by simpa using hown) hg hwh;exact jo
     iterate 2
      ·exact fP
     ·have l12:L 12=true:=by first|exact hpre|exact hpre.1|exact hpre.2|exact hpre.1.1|exact hpre.1.2|exact hpre.2.1|exact hpre.2.2|exact hpre.2.1.1|exact hpre.2.1.2|exact hpre.2.2.1|exact hpre.2.2.2|exact hpre.2.2.2.1|exact hpre.2.2.2.2
      have l11:L 11=true:=Sm (Ct Hdep.o 12 11 rfl) l12;obtain⟨A6,c6,e6,hS6,hb6,hk6⟩:=HR.o.p2 l12 hL;have x2:=hS6.c2;have x3:=hS6.bk.live 2;have x4:=hS6.lt;go_simp;exact hK undef _ _ Ae Ae (HR.o.put11 l11 l12 hL (by rw[e6];simp)) dP
    rintro L U W6 hL hφ hR;clear hφ;obtain⟨A6,c6,hS6,hb6,hk6⟩:=hR.p3 (hL 15 aL);have hc6:=hR.p4 (hL 15 aL);have hk6:=hk6 _ (ar.2 rfl);have eg:(ps.map fun p=>p.1.tag)++[f.tag]=(ps++[(f,v6)]).map fun p=>p.1.tag:=aK;rw[eg]at hS6 hk6;simp only[List.length_map]at hS6 hk6;have hbw:Below (w1.heap.size+2) W W6:=(Aq _ _).drew.trans hb6;have HS6:=Aa hS6;have HK6:=Aa hk6;have HR6:=@Aa (E4 W6 g (q6+1)) (HR7.o.belowg (hbw.mono aI) hbw.size);have Hbw:=Aa hbw;have s3:=hS6.c3;have s4:=hS6.lt;have hxl:xk.length<=200:=aI;clear hR hL hb6 hS6 hk6 eg hbw hc6;go_wp2_with (at_builtin;go_loud (refine Fg _ rfl _ _ 146 rfl (w1.heap.size+3) 76 (.pointer none) 8 underlying146 Rt rfl W6 b6 rfl rfl (.slice A3 xk.length c3) xk.length (Dr (xk.map (·.1))) rfl rfl HS6.o.row bc aI HS6.o.bs ?_;intro v7 w7 hown7 hg7 hwh7;obtain⟨A7,c7,e7,hS7,hb7⟩:=HS6.o.push (x:=(b6,Bt (Af xs) f.kind v6)) HK6.o hown7 hg7 hwh7;subst e7;have HS7:=Aa hS7;have HB7:=Aa hb7;have r3:=hS7.c3;have f3:=hS7.bk.live 3;have hz7:=hS7.lt;clear hS7 hb7 hown7 hg7 hwh7))
    have el:(xk++[(b6,Bt (Af xs) f.kind v6)]).length=xk.length+1:=aK;have el2:(ps++[(f,v6)]).length=ps.length+1:=aK;have hsc:Below (w1.heap.size+2) W6 (w7.setCell ⟨w1.heap.size+2,3,none⟩ (.slice A7 (xk++[(b6,Bt (Af xs) f.kind v6)]).length c7)):=(HB7.o.mono (show w1.heap.size+2<=w1.heap.size+3 by omega)).setCell (p:=⟨w1.heap.size+2,3,none⟩) (Al (w1.heap.size+2)) _;have HRf:=Aa (HR6.o.belowg (hsc.mono aI) hsc.size);have Hbf:=Aa (Hbw.o.trans hsc);have Hgf:=Aa (Qcz Hg7.o Hbf.o aI);have Hst:=Aa HS7.o.set3;have Heq:=@Aa ((xk++[(b6,Bt (Af xs) f.kind v6)]).map (·.2)=(ps++[(f,v6)]).map fun r=>Bt (Af xs) r.1.kind r.2) (by simp[heq.o]);rw[el]at HRf Hgf Hbf Hst;go_roundw
    case rel=>exact⟨n+1,q6+1,A6,c6,A7,c7,ps++[(f,v6)],xk++[(b6,Bt (Af xs) f.kind v6)],by go_num,by omega,hq7,Hvs9.o,Heq.o,HRf.o,Hgf.o,by rw[el];exact Hst.o,(Hbf.o.cell (p:=⟨w1.heap.size,2,none⟩) (show w1.heap.size<w1.heap.size+2 by omega)).trans X27.o⟩
    case measure=>simp[intOf];omega
theorem Ge.mono{S:List Ty}{n m:Nat}{k:Kd}{v:Vl}(h:Ge S n k v)(hm:n<=m):Ge S m k v:=(E7 S n k v h m).2 (ad ((E7 S n k v h n).1 h) hm)
theorem Tz.mono{xs:List (Ty × Value)}{xv:Value}{k:Kd}{d:Int}{N B N' B':Nat}(h:Tz xs xv k d N B)(hN:N<=N')(hB:B<=B'):Tz xs xv k d N' B':=fun g p W h1 h2 hp=>
 (h g p W h1 h2 aI).mono (by rintro e w' ⟨b,v,q,e1,k1,k2,k3,k4,k5,k6⟩;exact⟨b,v,q,e1,k1.mono hN,by omega,by omega,k4,k5,k6⟩)
theorem Qb5(xs:List (Ty × Value))(A0:Option Addr)(c0:Nat)(k:Kd)(hsg:k.signs=[])(hbs:k.base=[64])(d:Int)(N B:Nat)(H:DtC xs (.slice A0 xs.length c0) k d N B):Tz xs (.slice A0 xs.length c0) k d N B:=by
 intro g p w hsc hR hp;have HR:=Aa hR;have HSc:=Aa hsc;obtain⟨r,hr⟩:∃r,Be k=64::r:=⟨k.name++[59],by unfold Be Cj;rw[hsg,if_pos hbs];rfl⟩
 unfold DtC at H;rw[hr]at H ⊢;have HC:=Aa H;obtain⟨xv,hxv⟩:∃xv:Value,xv=.slice A0 xs.length c0:=⟨_,rfl⟩
 rw[<-hxv]at HSc HC ⊢;clear H hR hsc hr hxv;go_enter func113,ntmps113;go_wp2_with fail;have hb:Below w w (w.alloc (.cells #[.string ⟨(64::r:List UInt8).toArray⟩,a6,.slice none 0 0,.slice none 0 0] 148)):=(Aq _ _).alloc (Al _) _;refine(HC.o g p _ (HSc.o.below hb) (HR.o.below hb) hp).mono ?_;rintro e w2 ⟨b,v,q,rfl,k1,k2,k3,k4,k5,k6⟩;have HF:=@Aa (Jt (Af xs) k N B w g p (.returned b) w2) ⟨b,v,q,rfl,k1,k2,k3,k4.mono fun c hc _=>by simp at hc;omega,k5,Ad (Cb hb _) k6⟩;clear k1 k2 k3 k4 k5 k6 hb;go_wp2_with fail;exact aG (v:=b) (by simp[results,results113,go_sem]) rfl HF.o
theorem Zm(xs:List (Ty × Value))(xv:Value)(k:Kd)(hsg:k.signs=[])(hbs:k.base=[110]\/k.base=[116]\/k.base=[102])(d:Int)(N:Nat):Tz xs xv k d (N+1) 100:=fun g p W _ hR hp=>by
 rcases hbs with h|h|h
 ·exact Qq6 _ k hsg h xv d N g p W hR aI
 ·exact Qq3 _ k hsg h xv d N g p W hR aI
 exact Qq9 _ k hsg h xv d N g p W hR aI
theorem Qb8{xs:List (Ty × Value)}(hsco:Kt (Af xs))(hv:∀x∈xs,∃A c,x.2=.slice A x.1.fields.length c){n:List UInt8}{t:Ty}(h:B9 (Af xs) n=some t):
  Ek t/\∃A c,D9 xs n=some (t,.slice A t.fields.length c):=by
 cases hx:D9 xs n with
 |none=>rw[Jq,hx]at h;cases h
 |some x=>
  rw[Jq,hx]at h;injection h with h;obtain⟨A,c,e⟩:=hv x (Cl hx).1;subst h;exact⟨hsco.1.1 _ (aq (Cl hx).1),A,c,by rw[<-e]⟩
section
variable (xs:List (Ty × Value)) (A0:Option Addr) (c0:Nat) (hsco:Kt (Af xs)) (hv:∀x∈xs,∃A c,x.2=.slice A x.1.fields.length c)
include hsco hv
theorem Qpz{k:Kd}(hk:Cw k)(hsg:k.signs=[])(hbs:k.base=[64]){t:Ty}(ht:B9 (Af xs) k.name=some t)(h9:t.sort=69)(d:Int)(hd:-1000<=d)(hd2:d<=1000)(N:Nat):Tz xs (.slice A0 xs.length c0) k d (N+1) 100:=by
 obtain⟨ty,A,c,hx⟩:=Qb8 hsco hv ht;obtain⟨st,nm,fs⟩:=t;simp only at h9;subst h9;refine Qb5 xs A0 c0 k hsg hbs d _ _ (Qpb xs A0 c0 k hk hsg hbs nm fs A c hx (fun f hf=>P6 ty.2.2.1.2 hf) (fun f hf=>(ty.2.2.1.1 f hf).2.1) (fun f hf=>by rw[((ty.2.2.1.1 f hf).2.2.2.1 rfl).1];decide) (Nat.pos_of_ne_zero fun e=>?_) ty.2.2.2.1 d hd hd2 N);exact absurd (ty.2.2.2.2 (List.eq_nil_of_length_eq_zero e)) (show ¬(69:UInt8)=82 by decide)
theorem Qqh{k:Kd}(hk:Cw k)(hsg:k.signs=[])(hbs:k.base=[64]){t:Ty}(ht:B9 (Af xs) k.name=some t)(h5:t.sort=85)(d:Int)(hd:-1000<=d)(hd2:d<=1000)(N B:Nat)(H:∀f∈t.fields,0<d\/t.fields.head?=some f->Tz xs (.slice A0 xs.length c0) f.kind (d - 1) N B):Tz xs (.slice A0 xs.length c0) k d (N+1) (B+100):=by
 obtain⟨ty,A,c,hx⟩:=Qb8 hsco hv ht;obtain⟨st,nm,fs⟩:=t;simp only at h5;subst h5;have hne:0<fs.length:=Nat.pos_of_ne_zero fun e=>absurd (ty.2.2.2.2 (List.eq_nil_of_length_eq_zero e)) (show ¬(85:UInt8)=82 by decide);have h1:∀f∈fs,Ap fs f.tag=some f:=fun f hf=>P6 ty.2.2.1.2 hf;have h2:∀f∈fs,f.tag<=200:=fun f hf=>(ty.2.2.1.1 f hf).2.1;have h3:∀f∈fs,(Be f.kind).length<=20:=fun f hf=>ad ((ty.2.2.1.1 f hf).2.2.2.2 (by show ¬(85:UInt8)=69;decide)).1.2.2 aL;by_cases h0:0<d
 ·exact Qb5 xs A0 c0 k hsg hbs d _ _ (Qmw xs A0 c0 k hk hsg hbs nm fs A c hx h1 h2 h3 hne ty.2.2.2.1 d hd hd2 N B (fun f hf=>H f hf (.inl h0)) h0)
 exact Qb5 xs A0 c0 k hsg hbs d _ _ (Qnj xs A0 c0 k hk hsg hbs nm fs A c hx h1 h2 h3 hne ty.2.2.2.1 d hd hd2 N B (H _ (ae hne) (.inr (by cases fs with|nil=>exact absurd hne aL|cons f r=>rfl))) h0)
theorem Qp8{k:Kd}(hk:Cw k)(hsg:k.signs=[])(hbs:k.base=[64]){t:Ty}(ht:B9 (Af xs) k.name=some t)(h2:t.sort=82)(d:Int)(hd:-1000<=d)(hd2:d<=1000)(N B:Nat)(hB:100<=B)(hB2:B<=100000000)(H:0<d->∀f∈t.fields,Tz xs (.slice A0 xs.length c0) f.kind (d - 1) N B):Tz xs (.slice A0 xs.length c0) k d (N+1) (8*B+100):=by
 obtain⟨ty,A,c,hx⟩:=Qb8 hsco hv ht;have hmem:=(Bj ht).1;obtain⟨st,nm,fs⟩:=t;simp only at h2;subst h2;have h69:¬(82:UInt8)=69:=aL;exact Qb5 xs A0 c0 k hsg hbs d _ _ (Qpl xs A0 c0 k hk hsg hbs nm fs A c hx hsco (fun f hf=>P6 ty.2.2.1.2 hf) (fun f hf=>(ty.2.2.1.1 f hf).2.1) (ty.2.2.1.2.imp fun h=>h.2) (fun f hf=>⟨((ty.2.2.1.1 f hf).2.2.2.2 h69).1,hsco.2.1 _ hmem h69 f hf,ad (Vp (ty.2.2.1.1 f hf)) aL⟩) ty.2.2.2.1 d hd hd2 N B hB hB2 H)
theorem Qpk:∀(m:Nat) (k:Kd) (d:Int),-990+(m:Int)<=d->d<=0->Cw k->Bu (Af xs) k->Ts (Af xs) m k->Tz xs (.slice A0 xs.length c0) k d (m+2) (900+100*m):=by
 intro m;induction m with
 |zero=>
  intro k d hd h0 hk hr he;cases hs:k.signs with
  |cons c r=>
   rcases Kl hk hs with rfl|rfl
   ·exact Qha xs A0 c0 k r hs hk d aI aI 1 100 (fun h=>absurd h aI) (Al _)
   exact Qgq xs A0 c0 k r hs hk d aI aI 1 100 (fun h=>absurd h aI) (Al _)
  |nil=>
   rcases hk.2.1 with⟨hb,_⟩|⟨hb,_⟩
   ·obtain⟨t,_,e⟩:=he hs hb;cases e
   exact(Zm xs _ k hs hb d 1).mono (Al _) aI
 |succ m ih=>
  intro k d hd h0 hk hr he;cases hs:k.signs with
  |cons c r=>
   rcases Kl hk hs with rfl|rfl
   ·exact(Qha xs A0 c0 k r hs hk d aI aI 1 100 (fun h=>absurd h aI) (Al _)).mono aI aI
   exact(Qgq xs A0 c0 k r hs hk d aI aI 1 100 (fun h=>absurd h aI) (Al _)).mono aI aI
  |nil=>
   rcases hk.2.1 with⟨hb,_⟩|⟨hb,_⟩
   ·obtain⟨t,ht,e⟩:=he hs hb;have hmem:=(Bj ht).1;have ty:=hsco.1.1 t hmem;rcases ty.1 with h2|h5|h9
    ·exact(Qp8 xs A0 c0 hsco hv hk hs hb ht h2 d aI aI 1 100 (Al _) aI (fun h=>absurd h aI)).mono aI aI
    ·have h69:t.sort≠69:=dk;refine(Qqh xs A0 c0 hsco hv hk hs hb ht h5 d aI aI (m+2) (900+100*m) fun f hf hor=>?_).mono aI aI;rcases hor with h|h
     ·exact absurd h aI
     refine ih f.kind (d - 1) aI aI ((ty.2.2.1.1 f hf).2.2.2.2 h69).1 (hsco.2.1 t hmem h69 f hf) fun hs1 hb1=>?_;unfold By Gb at e;rw[if_pos h5]at e;cases hfs:t.fields with
     |nil=>rw[hfs]at h;cases h
     |cons f0 r=>
      rw[hfs]at h e;injection h with h;subst h;simp only at e;rw[if_pos ⟨hs1,hb1⟩]at e;cases hu:B9 (Af xs) f0.kind.name with
      |none=>have:=hsco.2.1 t hmem h69 f0 hf hb1;rw[hu]at this;cases this
      |some u=>rw[hu]at e;exact⟨u,rfl,e⟩
    exact(Qpz xs A0 c0 hsco hv hk hs hb ht h9 d aI aI 1).mono aI aI
   exact(Zm xs _ k hs hb d 1).mono aI aI
end
def hiB:Nat->Nat
 |0=>1800
 |j+1=>8*hiB j+100
theorem Qke:∀j,1800<=hiB j
 |0=>Al _
 |j+1=>by have:=Qke j;show 1800<=8*hiB j+100;omega
theorem Qgp:∀j,j<=4->hiB j<=8000000:=by
 intro j hj;rcases(show j=0\/j=1\/j=2\/j=3\/j=4 by omega)with rfl|rfl|rfl|rfl|rfl<;>decide
theorem Qh3(xs:List (Ty × Value))(A0:Option Addr)(c0:Nat)(hsco:Kt (Af xs))(hv:∀x∈xs,∃A c,x.2=.slice A x.1.fields.length c):∀(j:Nat) (k:Kd),j<=4->Cw k->Bu (Af xs) k->Tz xs (.slice A0 xs.length c0) k (j:Int) (12+j) (hiB j):=by
 intro j;induction j with
 |zero=>intro k _ hk hr;exact(Qpk xs A0 c0 hsco hv 9 k 0 aI aI hk hr (Tt hsco hr)).mono aI aL
 |succ j ih=>
  intro k hj hk hr;have e1:(((j+1:Nat):Int) - 1)=(j:Int):=aI;have hg:=Qke j;have hl:=Qgp j aI;have hh:hiB (j+1)=8*hiB j+100:=rfl;have ih2:∀k,Cw k->Bu (Af xs) k->Tz xs (.slice A0 xs.length c0) k (((j+1:Nat):Int) - 1) (12+j) (hiB j):=fun k h1 h2=>by rw[e1];exact ih k aI h1 h2
  rw[hh];cases hs:k.signs with
  |cons c r=>
   have hp:Cw k.part:=(Jk hk).1;rcases Kl hk hs with rfl|rfl
   ·exact Qha xs A0 c0 k r hs hk _ aI aI (12+j) (hiB j) (fun _=>ih2 _ hp hr) aI
   exact Qgq xs A0 c0 k r hs hk _ aI aI (12+j) (hiB j) (fun _=>ih2 _ hp hr) aI
  |nil=>
   rcases hk.2.1 with⟨hb,_⟩|⟨hb,_⟩
   ·have hr1:=hr hb;cases ht:B9 (Af xs) k.name with
    |none=>rw[ht]at hr1;cases hr1
    |some t=>
     have hmem:=(Bj ht).1;have ty:=hsco.1.1 t hmem;rcases ty.1 with h2|h5|h9
     ·have h69:t.sort≠69:=cJ;exact Qp8 xs A0 c0 hsco hv hk hs hb ht h2 _ aI aI (12+j) (hiB j) aI aI (fun _ f hf=>ih2 _ ((ty.2.2.1.1 f hf).2.2.2.2 h69).1 (hsco.2.1 t hmem h69 f hf))
     ·have h69:t.sort≠69:=dk;exact(Qqh xs A0 c0 hsco hv hk hs hb ht h5 _ aI aI (12+j) (hiB j) fun f hf _=>ih2 _ ((ty.2.2.1.1 f hf).2.2.2.2 h69).1 (hsco.2.1 t hmem h69 f hf)).mono aI aI
     exact(Qpz xs A0 c0 hsco hv hk hs hb ht h9 _ aI aI 1).mono aI aI
   exact(Zm xs _ k hs hb _ 1).mono aI aI
theorem Gj.forms{W:World}{v:Value}{xs:List (Ty × Value)}(h:Gj W v xs):∀x∈xs,∃A c,x.2=.slice A x.1.fields.length c:=fun x hx=>by
 obtain⟨_,_,_,_,_,hf⟩:=h;obtain⟨A,c,e,_⟩:=hf x hx;exact⟨A,c,e⟩
def Ku(c:UInt8):Bool:=!Bi c && c != 64
theorem Z7{c:UInt8}(h:Ku c=true)(st:Nat × Nat):Rm st c=some (st.2,0):=by
 simp only[Ku,ax,Bool.not_eq_true',bne_iff_ne]at h;unfold Rm;rw[h.1,if_neg aL,if_neg (fun e=>h.2 e.1)]
theorem Qhp:∀(p:List UInt8),p.all Ku=true->∀u v,p≠[]->∃u' v',mach (u,v) p=some (u',v')/\(v=0->u'=0)/\v'=0/\u'<=v
 |[],_,_,_,h=>absurd rfl h
 |[c],h,u,v,_=>by
  simp only[List.all_cons,List.all_nil,Bool.and_true]at h;refine⟨v,0,?_,fun e=>e,rfl,Al _⟩;rw[mach,Z7 h];rfl
 |c::d::p,h,u,v,_=>by
  simp only[List.all_cons,ax]at h;obtain⟨u',v',e,h1,h2,h3⟩:=Qhp (d::p) (by simp only[List.all_cons,ax];exact h.2) v 0 aK;refine⟨u',v',?_,fun _=>h1 rfl,h2,by omega⟩;rw[mach,Z7 h.1];exact e
theorem Qft{p:List UInt8}(h:p.all Ku=true)(hn:p≠[])(u:Nat):mach (u,0) p=some (0,0):=by
 obtain⟨u',v',e,h1,h2,_⟩:=Qhp p h u 0 hn;rw[e,h1 rfl,h2]
def Km(l:List UInt8):Prop:=∀u,u<=14->∃u' v',mach (u,0) l=some (u',v')/\u'<=14/\v'<=14
def Fo(l:List UInt8):Prop:=∀u,u<=14->∃u',mach (u,0) l=some (u',0)/\u'<=14
theorem Km.sep{l:List UInt8}(h:Km l){c:UInt8}(hc:Ku c=true):Fo (l++[c]):=fun u hu=>by
 obtain⟨u',v',e,h1,h2⟩:=h u hu;refine⟨v',?_,h2⟩;rw[Gd,e];simp only[mach];rw[Z7 hc]
theorem Fo.app{a b:List UInt8}(h:Fo a)(k:Fo b):Fo (a++b):=fun u hu=>by
 obtain⟨u',e,h1⟩:=h u hu;obtain⟨u2,e2,h2⟩:=k u' h1;exact⟨u2,by rw[Gd,e];exact e2,h2⟩
theorem Fo.appF{a b:List UInt8}(h:Fo a)(k:Km b):Km (a++b):=fun u hu=>by
 obtain⟨u',e,h1⟩:=h u hu;obtain⟨u2,v2,e2,h2,h3⟩:=k u' h1;exact⟨u2,v2,by rw[Gd,e];exact e2,h2,h3⟩
theorem Fo.plain{p:List UInt8}(h:p.all Ku=true)(hn:p≠[]):Fo p:=fun u hu=>⟨0,Qft h hn u,by omega⟩
theorem Fo.toF{l:List UInt8}(h:Fo l):Km l:=fun u hu=>by
 obtain⟨u',e,h1⟩:=h u hu;exact⟨u',0,e,h1,by omega⟩
theorem Fo.nil:Fo []:=fun u hu=>⟨u,rfl,hu⟩
def okM(l:List UInt8)(v:Nat):Bool:=match mach (0,v) l with|some (a,b)=>decide (a<=14) && decide (b<=14)|none=>false
theorem Yi{l:List UInt8}{v:Nat}(h:okM l v=true):∃a b,mach (0,v) l=some (a,b)/\a<=14/\b<=14:=by
 unfold okM at h;cases e:mach (0,v) l with
 |none=>rw[e]at h;cases h
 |some x=>
  obtain⟨a,b⟩:=x;rw[e]at h;simp only[ax,decide_eq_true_eq]at h;exact⟨a,b,rfl,h.1,h.2⟩
theorem DK.mach{l:List UInt8}(h:DK l):∃a b,Go.Proofs.YtmmhmlmfhpfgbaaGreatDoor.mach (0,0) l=some (a,b)/\a<=14/\b<=14:=by
 rcases h with⟨sg,b,rfl,h1,h2,h3⟩|h
 ·rw[Gd,Jz sg _ h2];simp only[am];have hd:∀b∈T7,okM b 0=true/\okM b 1=true/\okM b 2=true:=aL;obtain⟨d0,d1,d2⟩:=hd b h3;rcases(show sg.length=0\/sg.length=1\/sg.length=2 by omega)with e|e|e<;>rw[e]
  ·exact Yi d0
  ·exact Yi d1
  exact Yi d2
 have hd:∀l∈Ti,okM l 0=true:=aL;exact Yi (hd l h)
theorem Km.kind{p k:List UInt8}(hp:p.all Ku=true)(hn:p≠[])(hk:DK k):Km (p++k):=fun u hu=>by
 rw[Gd,Qft hp hn u];exact hk.mach
theorem Qj9{c:UInt8}(h:Bh c=true):Ku c=true:=by
 have:=Dy.1 h;have h1:c≠91:=eI;have h2:c≠63:=eI;have h3:c≠64:=eI;simp[Ku,Bi,h1,h2,h3]
theorem Qc7(n:Nat):(Az n).all Ku=true:=List.all_eq_true.2 fun c hc=>Qj9 (List.all_eq_true.1 (Np n) c hc)
def Ql6:List (List UInt8):=[[53],[55,55],[57,57,57,57,57,57],[48]]
def Ql3:List (List UInt8):=[[104,105],[97,32,98],[]]
def Qk2:List (List UInt8):=[[121,101,115],[121,101,115],[110,111]]
theorem G9(g p:Nat)(c:UInt8)(tag:Nat)(nm:List UInt8)(w:World)(h:E4 w g p)(hp:p<=100000000)(hc:c=82\/c=85\/c=69)(ht:tag<=99)(hn:nm.length<=1)(hpl:nm.all Ku=true):
  Calls prog 188 #[g,.string ⟨[c].toArray⟩,(tag:Int),nm] w (N7 (fun l=>Km l/\l.length<=20) w g p 9):=by
 have hgl:=h.lt;have HR:=Aa h;have Hd:=Aa (fun W=>Gg tag tag W (Al _) aI);have hd2:=C9 1 tag (by have e:10 ^ (1+1)=100:=rfl;omega)
 have Hpre:=Aa (show (Az tag++58::nm).all Ku=true/\(Az tag++58::nm)≠[]by
  refine⟨?_,by simp⟩;rw[List.all_append,List.all_cons,Qc7,hpl];decide)
 have Hpre2:=Aa (show (Az tag++58::(nm++[58])).all Ku=true/\(Az tag++58::(nm++[58]))≠[]by
  refine⟨?_,by simp⟩;rw[List.all_append,List.all_cons,List.all_append,Qc7,hpl];decide)
 have Hnp:=Aa hpl;have Hdp:=Aa (Qc7 tag);clear h hpl;generalize Az tag=dt at *;go_enter func188,ntmps188;go_wp2_with fail;refine(Hd.o _).mono ?_;rintro e w1 ⟨rfl,hb1⟩;have HR1:=Aa (HR.o.below hb1);have Hg1:=Aa (Cb hb1 (some g));clear hb1 HR;rcases hc with rfl|rfl|rfl
 ·go_wp2_with fail;refine(Py g p _ HR1.o hp).mono ?_;rintro e w2 ⟨l,q,rfl,hl,hq,hR2,hg2⟩;have hll:=hl.len;have Hl:=Aa hl;have HR2:=Aa hR2;have Hg2:=Aa (Ad Hg1.o hg2);clear hl hR2 hg2 HR1 Hg1;go_wp2_with fail;refine(Bn g q 3 _ HR2.o aI aI aI).mono ?_;rintro e w3 ⟨z,rfl,hz1,_,hR3,hg3⟩;have HR3:=Aa hR3;have hg3l:=hR3.lt;have Hg3:=Aa (Ad Hg2.o hg3);clear hR3 hg3 HR2 Hg2;by_cases hz0:z=0
  ·subst hz0;by_cases hn1:l=[110]
   ·subst hn1;go_wp2_with fail;refine(Bn g (q+1) 8 _ (HR3.o.dalloc _) aI aI aI).mono ?_;rintro e w4 ⟨u,rfl,hu1,_,hR4,hg4⟩;have hu:u / 2 % 4<Ql6.length:=by show u / 2 % 4<4;omega
    obtain⟨s4,hsm,hcell⟩:=((Jw.new w3 Ql6).grown hg4 aI).cell hu;have hs4:=(show ∀l∈Ql6,l.all Ku=true/\l.length<=6 by decide) s4 hsm;have hs4l:=hs4.2;have k1:(0:Int)<=(u:Int) / 2 % 4:=aI;have k2:(u:Int) / 2 % 4<4:=aI;have HR4:=Aa hR4;have Hg4:=Aa (Ad Hg3.o (Ad (World.grownBy_alloc w3 _ (some g)) hg4));have Hs4:=Aa hs4;clear hR4 hg4 hsm hs4;go_wp2_with fail;go_ret;exact⟨dt++58::(nm++58::110::61::s4),q+1+1,by simp,⟨(Fo.plain cB aK).toF,by have:=Hs4.o.2;simp;omega⟩,by omega,HR4.o,Hg4.o⟩
   have tn:(l == [110])=false:=by simpa using hn1
   by_cases hn2:l=[116]
   ·subst hn2;go_wp2_with fail;refine(Bn g (q+1) 7 _ (HR3.o.dalloc _) aI aI aI).mono ?_;rintro e w4 ⟨u,rfl,hu1,_,hR4,hg4⟩;have hu:u / 3<Ql3.length:=by show u / 3<3;omega
    obtain⟨s4,hsm,hcell⟩:=((Jw.new w3 Ql3).grown hg4 aI).cell hu;have hs4:=(show ∀l∈Ql3,l.all Ku=true/\l.length<=3 by decide) s4 hsm;have hs4l:=hs4.2;have k1:(0:Int)<=(u:Int) / 3:=aI;have k2:(u:Int) / 3<3:=aI;have HR4:=Aa hR4;have Hg4:=Aa (Ad Hg3.o (Ad (World.grownBy_alloc w3 _ (some g)) hg4));have Hs4:=Aa hs4;clear hR4 hg4 hsm hs4;go_wp2_with fail;go_ret;exact⟨dt++58::(nm++58::116::61::39::(s4++[39])),q+1+1,by simp,⟨(Fo.plain cB aK).toF,by have:=Hs4.o.2;simp;omega⟩,by omega,HR4.o,Hg4.o⟩
   have tt:(l == [116])=false:=by simpa using hn2
   by_cases hn3:l=[102]
   ·subst hn3;go_wp2_with fail;refine(Bn g (q+1) 7 _ (HR3.o.dalloc _) aI aI aI).mono ?_;rintro e w4 ⟨u,rfl,hu1,_,hR4,hg4⟩;have hu:u / 3<Qk2.length:=by show u / 3<3;omega
    obtain⟨s4,hsm,hcell⟩:=((Jw.new w3 Qk2).grown hg4 aI).cell hu;have hs4:=(show ∀l∈Qk2,l.all Ku=true/\l.length<=3 by decide) s4 hsm;have hs4l:=hs4.2;have k1:(0:Int)<=(u:Int) / 3:=aI;have k2:(u:Int) / 3<3:=aI;have HR4:=Aa hR4;have Hg4:=Aa (Ad Hg3.o (Ad (World.grownBy_alloc w3 _ (some g)) hg4));have Hs4:=Aa hs4;clear hR4 hg4 hsm hs4;go_wp2_with fail;go_ret;exact⟨dt++58::(nm++58::102::61::s4),q+1+1,by simp,⟨(Fo.plain cB aK).toF,by have:=Hs4.o.2;simp;omega⟩,by omega,HR4.o,Hg4.o⟩
   have tf:(l == [102])=false:=by simpa using hn3
   clear hn1 hn2 hn3;go_wp2_with fail;exact jB
  have tz:((z:Int) == 0)=false:=aO;clear hz0;go_wp2_with fail;exact jB
 ·go_wp2_with fail;refine(Py g p _ HR1.o hp).mono ?_;rintro e w2 ⟨l,q,rfl,hl,hq,hR2,hg2⟩;have hll:=hl.len;have Hl:=Aa hl;have HR2:=Aa hR2;have Hg2:=Aa (Ad Hg1.o hg2);clear hl hR2 hg2 HR1 Hg1;go_wp2_with fail;go_ret;exact⟨(dt++58::(nm++[58]))++l,q,by simp,⟨Km.kind Hpre2.o.1 Hpre2.o.2 Hl.o,by simp;omega⟩,by omega,HR2.o,Hg2.o⟩
 go_wp2_with fail;go_ret;exact⟨dt++58::nm,p,by simp,⟨(Fo.plain Hpre.o.1 Hpre.o.2).toF,by simp;omega⟩,by omega,HR1.o,Hg1.o⟩
theorem Km.comma{l:List UInt8}(h:Km l):Fo (l++[44]):=h.sep aL
theorem Qj(g p:Nat)(c nc:UInt8)(w:World)(h:E4 w g p)(hp:p<=10000000)(hc:c=82\/c=85\/c=69)(hn:Ku nc=true):
  Calls prog 131 #[g,.string ⟨[c].toArray⟩,.string ⟨[nc].toArray⟩] w (N7 (fun l=>Fo l/\l.length<=88/\1<=l.length) w g p 50):=by
 have hgl:=h.lt;have HR:=Aa h
 have Hh:=Aa (show Fo [c,nc,61]from Fo.plain (by
  have hcp:Ku c=true:=by rcases hc with rfl|rfl|rfl<;>decide
  simp only[List.all_cons,List.all_nil,hcp,hn];decide) aK)
 have Hc:=Aa hc;clear h hn;go_enter func131,ntmps131;go_wp2_with fail;refine(Bn g p 4 _ HR.o aI aI aI).mono ?_;rintro e w1 ⟨x,rfl,hx1,_,hR1,hg1⟩;have hx:x<=3:=aI;have HR1:=Aa hR1;have Hg1:=Aa hg1;have hg1l:=hR1.lt;clear hR1 hg1 HR hx1;rcases hc with rfl|rfl|rfl
 ·go_wp2_with fail;refine(Bn g (p+1) 8 _ HR1.o aI aI aI).mono ?_;rintro e w2 ⟨z,rfl,hz1,_,hR2,hg2⟩;have HR2:=Aa hR2;have Hg2:=Aa (Ad Hg1.o hg2);have hg2l:=hR2.lt;clear hR2 hg2 HR1 Hg1 hz1;by_cases hz0:z=0
  ·subst hz0;go_wp2_with fail;go_loopw [7,8,10] (fun s t k wr=>∃(l:List UInt8) (tg k' q:Nat),s=l/\t=(tg:Int)/\k=(k':Int)/\k'<=0/\tg<=3*k'/\l.length<=3+21*k'/\1<=l.length/\Hid (Km l)/\Hid (k'=0->Fo l)/\q<=(p+1+1)+11*k'/\g<wr.heap.size/\Hid (E4 wr g q)/\Hid (w.grownBy wr (some g))) (fun _ _ k _=>0 - (intOf k).toNat)
   case atStart=>exact⟨[82,nc,61],0,0,(p+1+1),by simp,rfl,rfl,ag _,Al _,by simp,by simp,Hh.o.toF,fun _=>Hh.o,by omega,HR2.o.lt,HR2.o,Hg2.o⟩
   case round=>
    obtain⟨l,tg,k,q,rfl,rfl,rfl,hk,htg,hll,hl1,hF,hL,hq,hgw,hR,hg⟩:=hrel;by_cases hlt:k<0
    ·exact absurd hlt (Nat.not_lt_zero _)
    ·have k2:¬(k:Int)<0:=aI;have HRf:=Aa hR.o;have Hgf:=Aa hg.o;have HFf:=Aa hF.o;go_wp2_with fail;go_ret;exact⟨l++[10],q,by simp,⟨HFf.o.sep aL,by simp only[ah,List.length_cons,List.length_nil];omega,by simp⟩,by omega,HRf.o,Hgf.o⟩
  have tz:((z:Int) == 0)=false:=aO;clear hz0;go_wp2_with fail;go_loopw [7,8,10] (fun s t k wr=>∃(l:List UInt8) (tg k' q:Nat),s=l/\t=(tg:Int)/\k=(k':Int)/\k'<=(1+x)/\tg<=3*k'/\l.length<=3+21*k'/\1<=l.length/\Hid (Km l)/\Hid (k'=0->Fo l)/\q<=(p+1+1)+11*k'/\g<wr.heap.size/\Hid (E4 wr g q)/\Hid (w.grownBy wr (some g))) (fun _ _ k _=>(1+x) - (intOf k).toNat)
  case atStart=>exact⟨[82,nc,61],0,0,(p+1+1),by simp,rfl,rfl,ag _,Al _,by simp,by simp,Hh.o.toF,fun _=>Hh.o,by omega,HR2.o.lt,HR2.o,Hg2.o⟩
  case round=>
   obtain⟨l,tg,k,q,rfl,rfl,rfl,hk,htg,hll,hl1,hF,hL,hq,hgw,hR,hg⟩:=hrel;by_cases hlt:k<(1+x)
   ·have k2:(k:Int)<1+(x:Int):=aI;have k3:k<=3:=aI;go_wp2_with fail;refine(Bn g q 3 _ hR.o aI aI aI).mono ?_;rintro e w3 ⟨a,rfl,ha1,_,hR3,hg3⟩;have ha:a<=2:=aI;have HR3:=Aa hR3;have Hg3:=Aa (Ad hg.o hg3);clear hR3 hg3 ha1;go_wp2_with fail;refine(Bn g (q+1) 2 _ HR3.o aI aI aI).mono ?_;rintro e w4 ⟨b,rfl,hb1,_,hR4,hg4⟩;obtain⟨T,hT,hT2⟩:∃T:Nat,(T:Int)=(tg:Int)+1+(a:Int)*(b:Int)/\T<=3*(k+1):=by
     have hb:b=0\/b=1:=aI;rcases hb with rfl|rfl
     ·exact ij
     exact jC
    have hab:(a:Int)*(b:Int)<=2:=by
     have hb:b=0\/b=1:=aI;rcases hb with rfl|rfl
     ·simp
     simp;omega
    have hab0:0<=(a:Int)*(b:Int):=Int.mul_nonneg aI aI;have HR4:=Aa hR4;have Hg4:=Aa (Ad Hg3.o hg4);have HT:=Aa hT;have hg4l:=hR4.lt;clear hR4 hg4 HR3 Hg3 hb1 hT;by_cases hk0:k=0
    ·have HL:=Aa (hL.o hk0);have hki:¬(0:Int)<(k:Int):=aI;have hcv:=fun W=>Jh W w4 1 (Bx (112+k));rw[Bo aI]at hcv;have hu:IntKind.u8.wrap (112+(k:Int))=((112+k:Nat):Int):=fE
     have Hnm:=Aa (show ([Bx (112+k)]:List UInt8).all Ku=true by
      have hk4:k=0\/k=1\/k=2\/k=3:=aI;rcases hk4 with rfl|rfl|rfl|rfl<;>decide)
     clear hk0;go_wp2_with fail;rw[<-HT.o];refine(G9 g (q+1+1) 82 T [Bx (112+k)] _ (HR4.o.dalloc _) aI aK aI aK Hnm.o).mono ?_;rintro e w5 ⟨l2,q2,rfl,⟨hl2,hl2n⟩,hq2,hR5,hg5⟩;have HR5:=Aa hR5;have hg5l:=hR5.lt;have Hg5:=Aa (Ad Hg4.o (Ad (World.grownBy_alloc w4 _ (some g)) hg5));have Hl2:=Aa hl2;clear hR5 hg5 hl2;go_wp2_with fail;go_roundw
     case rel=>exact⟨l++l2,T,k+1,q2,by simp,by first|rfl|rw[HT.o],by go_num,by omega,by omega,by rw[ah];omega,by rw[ah];omega,HL.o.appF Hl2.o,(fun h=>by omega),by omega,hg5l,HR5.o,Hg5.o⟩
     case measure=>simp[intOf];omega
    have hki:(0:Int)<(k:Int):=aI;have hcv:=fun W=>Jh W w4 1 (Bx (112+k));rw[Bo aI]at hcv;have hu:IntKind.u8.wrap (112+(k:Int))=((112+k:Nat):Int):=fE
    have Hnm:=Aa (show ([Bx (112+k)]:List UInt8).all Ku=true by
     have hk4:k=0\/k=1\/k=2\/k=3:=aI;rcases hk4 with rfl|rfl|rfl|rfl<;>decide)
    have HF2:=Aa hF.o.comma;clear hk0;go_wp2_with fail;rw[<-HT.o];refine(G9 g (q+1+1) 82 T [Bx (112+k)] _ (HR4.o.dalloc _) aI aK aI aK Hnm.o).mono ?_;rintro e w5 ⟨l2,q2,rfl,⟨hl2,hl2n⟩,hq2,hR5,hg5⟩;have HR5:=Aa hR5;have hg5l:=hR5.lt;have Hg5:=Aa (Ad Hg4.o (Ad (World.grownBy_alloc w4 _ (some g)) hg5));have Hl2:=Aa hl2;clear hR5 hg5 hl2;go_wp2_with fail;go_roundw
    case rel=>exact⟨(l++[44])++l2,T,k+1,q2,by simp,by first|rfl|rw[HT.o],by go_num,by omega,by omega,by simp only[ah,List.length_cons,List.length_nil];omega,by simp only[ah,List.length_cons,List.length_nil];omega,HF2.o.appF Hl2.o,(fun h=>by omega),by omega,hg5l,HR5.o,Hg5.o⟩
    case measure=>simp[intOf];omega
   ·exact gd
 ·go_wp2_with fail;go_loopw [7,8,10] (fun s t k wr=>∃(l:List UInt8) (tg k' q:Nat),s=l/\t=(tg:Int)/\k=(k':Int)/\k'<=(1+x)/\tg<=3*k'/\l.length<=3+21*k'/\1<=l.length/\Hid (Km l)/\Hid (k'=0->Fo l)/\q<=(p+1)+11*k'/\g<wr.heap.size/\Hid (E4 wr g q)/\Hid (w.grownBy wr (some g))) (fun _ _ k _=>(1+x) - (intOf k).toNat)
  case atStart=>exact⟨[85,nc,61],0,0,(p+1),by simp,rfl,rfl,ag _,Al _,by simp,by simp,Hh.o.toF,fun _=>Hh.o,by omega,HR1.o.lt,HR1.o,Hg1.o⟩
  case round=>
   obtain⟨l,tg,k,q,rfl,rfl,rfl,hk,htg,hll,hl1,hF,hL,hq,hgw,hR,hg⟩:=hrel;by_cases hlt:k<(1+x)
   ·have k2:(k:Int)<1+(x:Int):=aI;have k3:k<=3:=aI;go_wp2_with fail;refine(Bn g q 3 _ hR.o aI aI aI).mono ?_;rintro e w3 ⟨a,rfl,ha1,_,hR3,hg3⟩;have ha:a<=2:=aI;have HR3:=Aa hR3;have Hg3:=Aa (Ad hg.o hg3);clear hR3 hg3 ha1;go_wp2_with fail;refine(Bn g (q+1) 2 _ HR3.o aI aI aI).mono ?_;rintro e w4 ⟨b,rfl,hb1,_,hR4,hg4⟩;obtain⟨T,hT,hT2⟩:∃T:Nat,(T:Int)=(tg:Int)+1+(a:Int)*(b:Int)/\T<=3*(k+1):=by
     have hb:b=0\/b=1:=aI;rcases hb with rfl|rfl
     ·exact ij
     exact jC
    have hab:(a:Int)*(b:Int)<=2:=by
     have hb:b=0\/b=1:=aI;rcases hb with rfl|rfl
     ·simp
     simp;omega
    have hab0:0<=(a:Int)*(b:Int):=Int.mul_nonneg aI aI;have HR4:=Aa hR4;have Hg4:=Aa (Ad Hg3.o hg4);have HT:=Aa hT;have hg4l:=hR4.lt;clear hR4 hg4 HR3 Hg3 hb1 hT;by_cases hk0:k=0
    ·have HL:=Aa (hL.o hk0);have hki:¬(0:Int)<(k:Int):=aI;have hcv:=fun W=>Jh W w4 1 (Bx (112+k));rw[Bo aI]at hcv;have hu:IntKind.u8.wrap (112+(k:Int))=((112+k:Nat):Int):=fE
     have Hnm:=Aa (show ([Bx (112+k)]:List UInt8).all Ku=true by
      have hk4:k=0\/k=1\/k=2\/k=3:=aI;rcases hk4 with rfl|rfl|rfl|rfl<;>decide)
     clear hk0;go_wp2_with fail;rw[<-HT.o];refine(G9 g (q+1+1) 85 T [Bx (112+k)] _ (HR4.o.dalloc _) aI aK aI aK Hnm.o).mono ?_;rintro e w5 ⟨l2,q2,rfl,⟨hl2,hl2n⟩,hq2,hR5,hg5⟩;have HR5:=Aa hR5;have hg5l:=hR5.lt;have Hg5:=Aa (Ad Hg4.o (Ad (World.grownBy_alloc w4 _ (some g)) hg5));have Hl2:=Aa hl2;clear hR5 hg5 hl2;go_wp2_with fail;go_roundw
     case rel=>exact⟨l++l2,T,k+1,q2,by simp,by first|rfl|rw[HT.o],by go_num,by omega,by omega,by rw[ah];omega,by rw[ah];omega,HL.o.appF Hl2.o,(fun h=>by omega),by omega,hg5l,HR5.o,Hg5.o⟩
     case measure=>simp[intOf];omega
    have hki:(0:Int)<(k:Int):=aI;have hcv:=fun W=>Jh W w4 1 (Bx (112+k));rw[Bo aI]at hcv;have hu:IntKind.u8.wrap (112+(k:Int))=((112+k:Nat):Int):=fE
    have Hnm:=Aa (show ([Bx (112+k)]:List UInt8).all Ku=true by
     have hk4:k=0\/k=1\/k=2\/k=3:=aI;rcases hk4 with rfl|rfl|rfl|rfl<;>decide)
    have HF2:=Aa hF.o.comma;clear hk0;go_wp2_with fail;rw[<-HT.o];refine(G9 g (q+1+1) 85 T [Bx (112+k)] _ (HR4.o.dalloc _) aI aK aI aK Hnm.o).mono ?_;rintro e w5 ⟨l2,q2,rfl,⟨hl2,hl2n⟩,hq2,hR5,hg5⟩;have HR5:=Aa hR5;have hg5l:=hR5.lt;have Hg5:=Aa (Ad Hg4.o (Ad (World.grownBy_alloc w4 _ (some g)) hg5));have Hl2:=Aa hl2;clear hR5 hg5 hl2;go_wp2_with fail;go_roundw
    case rel=>exact⟨(l++[44])++l2,T,k+1,q2,by simp,by first|rfl|rw[HT.o],by go_num,by omega,by omega,by simp only[ah,List.length_cons,List.length_nil];omega,by simp only[ah,List.length_cons,List.length_nil];omega,HF2.o.appF Hl2.o,(fun h=>by omega),by omega,hg5l,HR5.o,Hg5.o⟩
    case measure=>simp[intOf];omega
   ·exact gd
 go_wp2_with fail;go_loopw [7,8,10] (fun s t k wr=>∃(l:List UInt8) (tg k' q:Nat),s=l/\t=(tg:Int)/\k=(k':Int)/\k'<=(1+x)/\tg<=3*k'/\l.length<=3+21*k'/\1<=l.length/\Hid (Km l)/\Hid (k'=0->Fo l)/\q<=(p+1)+11*k'/\g<wr.heap.size/\Hid (E4 wr g q)/\Hid (w.grownBy wr (some g))) (fun _ _ k _=>(1+x) - (intOf k).toNat)
 case atStart=>exact⟨[69,nc,61],0,0,(p+1),by simp,rfl,rfl,ag _,Al _,by simp,by simp,Hh.o.toF,fun _=>Hh.o,by omega,HR1.o.lt,HR1.o,Hg1.o⟩
 case round=>
  obtain⟨l,tg,k,q,rfl,rfl,rfl,hk,htg,hll,hl1,hF,hL,hq,hgw,hR,hg⟩:=hrel;by_cases hlt:k<(1+x)
  ·have k2:(k:Int)<1+(x:Int):=aI;have k3:k<=3:=aI;go_wp2_with fail;refine(Bn g q 3 _ hR.o aI aI aI).mono ?_;rintro e w3 ⟨a,rfl,ha1,_,hR3,hg3⟩;have ha:a<=2:=aI;have HR3:=Aa hR3;have Hg3:=Aa (Ad hg.o hg3);clear hR3 hg3 ha1;go_wp2_with fail;refine(Bn g (q+1) 2 _ HR3.o aI aI aI).mono ?_;rintro e w4 ⟨b,rfl,hb1,_,hR4,hg4⟩;obtain⟨T,hT,hT2⟩:∃T:Nat,(T:Int)=(tg:Int)+1+(a:Int)*(b:Int)/\T<=3*(k+1):=by
    have hb:b=0\/b=1:=aI;rcases hb with rfl|rfl
    ·exact ij
    exact jC
   have hab:(a:Int)*(b:Int)<=2:=by
    have hb:b=0\/b=1:=aI;rcases hb with rfl|rfl
    ·simp
    simp;omega
   have hab0:0<=(a:Int)*(b:Int):=Int.mul_nonneg aI aI;have HR4:=Aa hR4;have Hg4:=Aa (Ad Hg3.o hg4);have HT:=Aa hT;have hg4l:=hR4.lt;clear hR4 hg4 HR3 Hg3 hb1 hT;by_cases hk0:k=0
   ·have HL:=Aa (hL.o hk0);have hki:¬(0:Int)<(k:Int):=aI;have hcv:=fun W=>Jh W w4 1 (Bx (112+k));rw[Bo aI]at hcv;have hu:IntKind.u8.wrap (112+(k:Int))=((112+k:Nat):Int):=fE
    have Hnm:=Aa (show ([Bx (112+k)]:List UInt8).all Ku=true by
     have hk4:k=0\/k=1\/k=2\/k=3:=aI;rcases hk4 with rfl|rfl|rfl|rfl<;>decide)
    clear hk0;go_wp2_with fail;rw[<-HT.o];refine(G9 g (q+1+1) 69 T [Bx (112+k)] _ (HR4.o.dalloc _) aI aK aI aK Hnm.o).mono ?_;rintro e w5 ⟨l2,q2,rfl,⟨hl2,hl2n⟩,hq2,hR5,hg5⟩;have HR5:=Aa hR5;have hg5l:=hR5.lt;have Hg5:=Aa (Ad Hg4.o (Ad (World.grownBy_alloc w4 _ (some g)) hg5));have Hl2:=Aa hl2;clear hR5 hg5 hl2;go_wp2_with fail;go_roundw
    case rel=>exact⟨l++l2,T,k+1,q2,by simp,by first|rfl|rw[HT.o],by go_num,by omega,by omega,by rw[ah];omega,by rw[ah];omega,HL.o.appF Hl2.o,(fun h=>by omega),by omega,hg5l,HR5.o,Hg5.o⟩
    case measure=>simp[intOf];omega
   have hki:(0:Int)<(k:Int):=aI;have hcv:=fun W=>Jh W w4 1 (Bx (112+k));rw[Bo aI]at hcv;have hu:IntKind.u8.wrap (112+(k:Int))=((112+k:Nat):Int):=fE
   have Hnm:=Aa (show ([Bx (112+k)]:List UInt8).all Ku=true by
    have hk4:k=0\/k=1\/k=2\/k=3:=aI;rcases hk4 with rfl|rfl|rfl|rfl<;>decide)
   have HF2:=Aa hF.o.comma;clear hk0;go_wp2_with fail;rw[<-HT.o];refine(G9 g (q+1+1) 69 T [Bx (112+k)] _ (HR4.o.dalloc _) aI aK aI aK Hnm.o).mono ?_;rintro e w5 ⟨l2,q2,rfl,⟨hl2,hl2n⟩,hq2,hR5,hg5⟩;have HR5:=Aa hR5;have hg5l:=hR5.lt;have Hg5:=Aa (Ad Hg4.o (Ad (World.grownBy_alloc w4 _ (some g)) hg5));have Hl2:=Aa hl2;clear hR5 hg5 hl2;go_wp2_with fail;go_roundw
   case rel=>exact⟨(l++[44])++l2,T,k+1,q2,by simp,by first|rfl|rw[HT.o],by go_num,by omega,by omega,by simp only[ah,List.length_cons,List.length_nil];omega,by simp only[ah,List.length_cons,List.length_nil];omega,HF2.o.appF Hl2.o,(fun h=>by omega),by omega,hg5l,HR5.o,Hg5.o⟩
   case measure=>simp[intOf];omega
  ·exact gd
theorem Qa4(s:List UInt8)(w:World)(hs:s.length<=4000000):
  Calls prog 132 #[s] w fun e w'=>e=.returned (.bool (Ck s).isSome)/\Below w w w':=by
 have H:=Aa (fun W=>Ym s W hs);generalize Ck s=o at *;go_enter func132,ntmps132;go_wp2_with fail;refine(H.o _).mono ?_;rintro e w1 ⟨hc,hb⟩;have Hb:=Aa hb;clear hb;cases o with
 |none=>
  obtain⟨A,n,c,rfl⟩:=hc;go_wp2_with fail;go_ret;exact⟨rfl,Hb.o⟩
 |some S=>
  obtain⟨v,xs,rfl,_,_⟩:=hc;go_wp2_with fail;go_ret;exact⟨rfl,Hb.o⟩
def Qdg:List (List UInt8):=[[82],[85],[85],[69]]
def Yo:List (List UInt8):=[[82],[69],[85]]
def Zy:List (List UInt8):=[[],[44],[58],[49],[10]]
def Zz:List (List UInt8):=[[64,97,59],[64,97,59],[64,97,59],[64,98,59],[64,99,59],[91,110],[63,64,97,59],[110],[116],[91,64,98,59],[63,91,102]]
def Qc9:List UInt8:=[82,97,61,49,58,112,58,110,61,53,44,50,58,113,58,91,116,44,52,58,114,58,63,64,97,59,44,53,58,115,58,64,98,59,10,85,98,61,49,58,112,58,110,44,51,58,113,58,64,97,59,10,69,99,61,49,58,112,44,50,58,113,10]
def DSc(l:List UInt8):Prop:=l.length<=270/\Z6 l
def X7(l:List UInt8):Prop:=l.length<=264/\1<=l.length/\∃st,mach (0,0) l=some st
theorem X7.three{a b c:List UInt8}(ha:Fo a/\a.length<=88/\1<=a.length)(hb:Fo b/\b.length<=88/\1<=b.length)(hc:Fo c/\c.length<=88/\1<=c.length):X7 (a++b++c):=by
 obtain⟨u,e,_⟩:=((ha.1.app hb.1).app hc.1) 0 aI;exact⟨by simp only[ah];omega,by simp only[ah];omega,_,e⟩
theorem X7.plain:X7 Qc9:=⟨by decide,by decide,(0,0),by decide⟩
theorem X7.o{l:List UInt8}(h:X7 l):DSc l:=⟨by have:=h.1;omega,by obtain⟨_,_,st,e⟩:=h;exact Z6.of_mach e⟩
theorem X7.turned{l i:List UInt8}{k:Nat}(h:X7 l)(hk:k<l.length)(hi:i∈Zy):DSc (l.take k++(i++l.drop (k+1))):=by
 obtain⟨h1,_,s,e⟩:=h;have hil:i.length<=1:=(show ∀i∈Zy,i.length<=1 by decide) i hi;refine⟨by simp only[ah,List.length_take,List.length_drop];omega,?_⟩;have e2:l=l.take k++l[k]::l.drop (k+1):=by
  rw[List.getElem_cons_drop,List.take_append_drop]
 rw[e2]at e;refine Z6.turned e i ?_;have:i=[]\/i=[44]\/i=[58]\/i=[49]\/i=[10]:=by simpa [Zy]using hi
 rcases this with rfl|rfl|rfl|rfl|rfl
 ·exact .inl rfl
 ·exact .inr ⟨44,rfl,by decide,by decide⟩
 ·exact .inr ⟨58,rfl,by decide,by decide⟩
 ·exact .inr ⟨49,rfl,by decide,by decide⟩
 exact .inr ⟨10,rfl,by decide,by decide⟩
theorem Qh4{s:List UInt8}(h:s∈Qdg\/s∈Yo):∃c:UInt8,s=[c]/\(c=82\/c=85\/c=69):=by
 have hd:(∀s∈Qdg,s=[82]\/s=[85]\/s=[69])/\(∀s∈Yo,s=[82]\/s=[85]\/s=[69]):=aL;have:s=[82]\/s=[85]\/s=[69]:=h.elim (hd.1 s) (hd.2 s);rcases this with rfl|rfl|rfl
 ·exact⟨82,rfl,.inl rfl⟩
 ·exact⟨85,rfl,.inr (.inl rfl)⟩
 exact⟨69,rfl,.inr (.inr rfl)⟩
theorem Qau(g p:Nat)(w:World)(h:E4 w g p)(hp:p<=1000000):
  Calls prog 77 #[g] w (N7 DSc w g p 170):=by
 have hgl:=h.lt;have HR:=Aa h;clear h;go_enter func77,ntmps77;go_wp2_with fail;refine(Qj g p 82 97 _ HR.o aI (.inl rfl) aL).mono ?_;rintro e w1 ⟨l1,q1,rfl,hl1,hq1,hR1,hg1⟩;have hg1l:=hR1.lt;have HR1:=Aa hR1;have Hg1:=Aa hg1;have Hl1:=Aa hl1;have l1l:=hl1.2.1;clear hR1 hg1 hl1 HR;go_wp2_with fail;refine(Bn g q1 4 _ (HR1.o.dalloc _) aI aI aI).mono ?_;rintro e w2 ⟨x,rfl,hx1,_,hR2,hg2⟩;have hx:x<Qdg.length:=by show x<4;omega
 obtain⟨s2,hsm,hcell⟩:=((Jw.new w1 Qdg).grown hg2 aI).cell hx;obtain⟨c2,rfl,hc2⟩:=Qh4 (.inl hsm);have i1:(0:Int)<=(x:Int):=aI;have i2:(x:Int)<4:=aI;have HR2:=Aa hR2;have Hg2:=Aa (Ad Hg1.o (Ad (World.grownBy_alloc w1 _ (some g)) hg2));have Hc2:=Aa hc2;clear hR2 hg2 hsm hc2 HR1 Hg1;go_wp2_with fail;refine(Qj g (q1+1) c2 98 _ HR2.o aI Hc2.o aL).mono ?_;rintro e w3 ⟨l3,q3,rfl,hl3,hq3,hR3,hg3⟩;have hg3l:=hR3.lt;have HR3:=Aa hR3;have Hg3:=Aa (Ad Hg2.o hg3);have Hl3:=Aa hl3;have l3l:=hl3.2.1;clear hR3 hg3 hl3 HR2 Hg2 hcell;go_wp2_with fail;refine(Bn g q3 3 _ (HR3.o.dalloc _) aI aI aI).mono ?_;rintro e w4 ⟨y,rfl,hy1,_,hR4,hg4⟩;have hy:y<Yo.length:=by show y<3;omega
 obtain⟨s4,hsm,hcell⟩:=((Jw.new w3 Yo).grown hg4 aI).cell hy;obtain⟨c4,rfl,hc4⟩:=Qh4 (.inr hsm);have j1:(0:Int)<=(y:Int):=aI;have j2:(y:Int)<3:=aI;have HR4:=Aa hR4;have Hg4:=Aa (Ad Hg3.o (Ad (World.grownBy_alloc w3 _ (some g)) hg4));have Hc4:=Aa hc4;clear hR4 hg4 hsm hc4 HR3 Hg3;go_wp2_with fail;refine(Qj g (q3+1) c4 99 _ HR4.o aI Hc4.o aL).mono ?_;rintro e w5 ⟨l5,q5,rfl,hl5,hq5,hR5,hg5⟩;have hg5l:=hR5.lt;have HR5:=Aa hR5;have Hg5:=Aa (Ad Hg4.o hg5);have l5l:=hl5.2.1;have Hs:=Aa (X7.three Hl1.o Hl3.o hl5);have hsl:(l1++(l3++l5)).length<=264:=by simp only[ah];omega
 rw[List.append_assoc]at Hs;clear hR5 hg5 hl5 HR4 Hg4 hcell;have Hsok:=Aa (fun W=>Qa4 (l1++(l3++l5)) W aI);clear Hl1 Hl3;go_upto_region 2 with fail
 generalize (Ck (l1++(l3++l5))).isSome=ok at *;generalize l1++(l3++l5)=s0 at *;go_cut [30]from 5 (fun b30 wx=>∃(tb:Bool) (q':Nat),b30=.bool tb/\q'<=q5+1/\Hid (E4 wx g q')/\Hid (w.grownBy wx (some g)))
 case first=>
  go_wp2_with fail;refine(Hsok.o _).mono ?_;rintro e w6 ⟨rfl,hb6⟩;have HR6:=Aa (HR5.o.below hb6);have Hg6:=Aa (Ad Hg5.o (Cb hb6 (some g)));clear hb6 Hsok;cases ok with
  |true=>
   go_wp2_with fail;go_meet
   exact⟨false,q5,rfl,by omega,HR6.o,Hg6.o⟩
  |false=>
   go_wp2_with fail;refine(Bn g q5 8 _ HR6.o aI aI aI).mono ?_;rintro e w7 ⟨u,rfl,_,_,hR7,hg7⟩;have HR7:=Aa hR7;have Hg7:=Aa (Ad Hg6.o hg7);clear hR7 hg7;go_wp2_with fail;go_meet
   exact⟨decide (0<u),q5+1,rfl,by omega,HR7.o,Hg7.o⟩
 case rest=>
  obtain⟨tb,q',rfl,hq',HR7,Hg7⟩:=hcut;obtain⟨w7,rfl⟩:∃w7:World,w7=wc:=⟨_,rfl⟩
  clear Hsok HR5 Hg5;go_upto_if 30 with fail
  go_cut [3]from 5 (fun s3 wx=>∃s:List UInt8,s3=s/\Hid (X7 s)/\wx=w7)
  case first=>
   cases tb with
   |true=>
    go_wp2_with fail;go_meet
    exact⟨Qc9,by simp only[Qc9],X7.plain,rfl⟩
   |false=>
    go_wp2_with fail;go_meet
    exact⟨s0,rfl,Hs.o,rfl⟩
  case rest=>
   clear Hs hsl;obtain⟨s,rfl,Hs,rfl⟩:=hcut;have hsl:=Hs.o.1;have hs1:=Hs.o.2.1;go_wp2_with fail;refine(Bn g q' 24 _ HR7.o aI aI aI).mono ?_;rintro e w8 ⟨z,rfl,_,_,hR8,hg8⟩;have HR8:=Aa hR8;have Hg8:=Aa (Ad Hg7.o hg8);clear hR8 hg8 HR7 Hg7;by_cases hz0:z=0
   ·have tz:((z:Int) == 0)=true:=by simp[hz0]
    clear hz0;go_wp2_with fail;refine(Bn g (q'+1) s.length _ HR8.o aI aI aI).mono ?_;rintro e w9 ⟨k,rfl,hk1,_,hR9,hg9⟩;have hk1:=hk1 aI;have hk:k<s.length:=aI;have Hg9:=Aa (Ad Hg8.o hg9);obtain⟨code,hRL⟩:=hR9.known;have hgl9:=hRL.any.lt;obtain⟨hy1,_⟩:=Qd9 code (q'+1+1) 5;have hy1:=hy1 aI;have HPk:=Aa (fun W (h:Nt W g (q'+1+1) code)=>Qcl g (q'+1+1) code 5 W h aI aI aI);generalize Vz code (q'+1+1) 5=y at *;obtain⟨i,hi⟩:∃i:List UInt8,Zy[y]?=some i:=⟨Zy[y]'(by show y<5;omega),List.getElem?_eq_getElem _⟩
    have him:=List.mem_of_getElem? hi;have hil:i.length<=1:=(show ∀i∈Zy,i.length<=1 by decide) i him;have Hi:=Aa hi;have Him:=Aa him;have Hk:=Aa hk;have i5:(0:Int)<=(k:Int):=aI;have i6:(k:Int)<=(s.length:Int):=aI;have i7:(k:Int)+1<=(s.length:Int):=aI;have i8:(0:Int)<=(k:Int)+1:=aI;have y1:(0:Int)<=(y:Int):=aI;have y2:(y:Int)<5:=aI;have hwr:IntKind.i64.wrap ((k:Int)+1)=(k:Int)+1:=IntWalk.i64_in _ aI;clear hR9 hg9 HR8 Hg8 hi him hk tz;go_wp2_with fail;refine rgP Zy 3 5 6 hRL ?_;iterate 3 refine sq ?_
    refine Qq2 ?_;refine sq ?_;refine Qrb hgl9 HPk.o ?_;refine Qq0 ?_;refine Qre Hi.o ?_;refine sqZ ?_;iterate 4 refine sq ?_
    refine sqZ ?_;refine sq ?_;refine dnP (fun W hW=>?_) aL;go_wp2_with fail;go_ret;exact⟨_,q'+1+1+1,rfl,by simpa using X7.turned Hs.o Hk.o Him.o,by omega,hW.o.rd.any,Ad Hg9.o hW.o.gr⟩
   ·have tz:((z:Int) == 0)=false:=aO;clear hz0;go_wp2_with fail;go_ret;exact⟨s,q'+1,rfl,Hs.o.o,by omega,HR8.o,Hg8.o⟩
def DKs(l:List UInt8):Prop:=DK l\/l∈Zz\/l=[110]
theorem DKs.len{l:List UInt8}(h:DKs l):l.length<=15:=by
 rcases h with h|h|rfl
 ·exact h.len
 ·exact(show ∀l∈Zz,l.length<=15 by decide) l h
 decide
theorem Qd8(g p:Nat)(s:List UInt8)(w:World)(h:E4 w g p)(hp:p<=10000000)(hs:s.length<=1000000):
  Calls prog 78 #[g,s] w (N7 DKs w g p 10):=by
 have hgl:=h.lt;have HR:=Aa h;clear h;go_enter func78,ntmps78;go_wp2_with fail;refine(Bn g p 30 _ HR.o aI aI aI).mono ?_;rintro e w1 ⟨x,rfl,hx1,_,hR1,hg1⟩;have HR1:=Aa hR1;have Hg1:=Aa hg1;have hg1l:=hR1.lt;clear hR1 hg1 HR hx1;by_cases hx0:x=0
 ·subst hx0;go_wp2_with fail;refine(Py g (p+1) _ HR1.o aI).mono ?_;rintro e w2 ⟨l,q,rfl,hl,hq,hR2,hg2⟩;have HR2:=Aa hR2;have Hg2:=Aa (Ad Hg1.o hg2);have Hl:=Aa hl;clear hR2 hg2 hl HR1 Hg1;go_wp2_with fail;go_ret;exact⟨l,q,rfl,.inl Hl.o,by omega,HR2.o,Hg2.o⟩
 have tx:((x:Int) == 0)=false:=aO;clear hx0;go_wp2_with fail;refine(Bn g (p+1) 11 _ (HR1.o.dalloc _) aI aI aI).mono ?_;rintro e w2 ⟨y,rfl,hy1,_,hR2,hg2⟩;have hy:y<Zz.length:=by show y<11;omega
 obtain⟨k,hkm,hcell⟩:=((Jw.new w1 Zz).grown hg2 aI).cell hy;have hkl:k.length<=15:=(show ∀l∈Zz,l.length<=15 by decide) k hkm;have i1:(0:Int)<=(y:Int):=aI;have i2:(y:Int)<11:=aI;have HR2:=Aa hR2;have Hg2:=Aa (Ad Hg1.o (Ad (World.grownBy_alloc w1 _ (some g)) hg2));have Hk:=Aa hkm;have Hkind:=Aa (fun W=>Qv s k W aI aI);generalize Bq s k=o at Hkind;clear hR2 hg2 hkm HR1 Hg1 hy hy1;go_wp2_with fail;refine(Hkind.o _).mono ?_;rintro e w3 ⟨hc3,hb3⟩;have HR3:=Aa (HR2.o.below hb3);have Hg3:=Aa (Ad Hg2.o (Cb hb3 (some g)));clear hb3 HR2 Hg2 hcell;cases o with
 |none=>
  obtain⟨A,n,c,rfl⟩:=hc3;go_wp2_with fail;go_ret;exact⟨[110],p+1+1,rfl,.inr (.inr rfl),by omega,HR3.o,Hg3.o⟩
 |some z=>
  obtain⟨v,xs,rfl,_,_⟩:=hc3;go_wp2_with fail;go_ret;exact⟨k,p+1+1,rfl,.inr (.inl Hk.o),by omega,HR3.o,Hg3.o⟩
def Zu:List (List UInt8):=[[],[48],[44],[125],[45]]
theorem Qji(g p:Nat)(s kd:List UInt8)(w:World)(h:E4 w g p)(hp:p<=1000000)(hs:s.length<=1000000)(hkd:kd.length<=1000000):
  Calls prog 52 #[g,s,kd] w (N7 (fun l=>l.length<=20000) w g p 40000000):=by
 have hgl:=h.lt;have HR:=Aa h;have Hk:=Aa (fun W=>Qv s kd W aI aI);have Hgood:=Aa (fun S k (e:Bq s kd=some (S,k))=>Ec e);obtain⟨o,ho⟩:∃o,Bq s kd=o:=⟨_,rfl⟩
 rw[ho]at Hk Hgood;clear ho h;go_enter func52,ntmps52;go_wp2_with fail;refine(Hk.o _).mono ?_;rintro e w1 ⟨hm,hb1⟩;have HR1:=Aa (HR.o.below hb1);have Hg1:=Aa (Cb hb1 (some g));clear hb1;cases o with
 |none=>
  obtain⟨A,n,c,rfl⟩:=hm;go_wp2_with fail;go_ret;exact⟨[53],p,rfl,by decide,by omega,HR1.o,Hg1.o⟩
 |some x=>
  obtain⟨v,xs,rfl,hxs,hsc⟩:=hm;obtain⟨S,k⟩:=x;simp only at hxs;subst hxs;obtain⟨g1,_,_,g2,g3,g4⟩:=Hgood.o _ k rfl;subst g3;have hform:=hsc.forms;have HSc:=Aa hsc;obtain⟨A0,c0,rfl,_⟩:=hsc;have HD:=Aa (fun(j:Nat) hj=>Qh3 xs A0 c0 g1 hform j k hj g2 g4);have HD4:=@Aa (Tz xs (.slice A0 xs.length c0) k 4 16 8000000) ((Qh3 xs A0 c0 g1 hform 4 k (Al _) g2 g4).mono (Al _) (Qgp 4 (Al _)));have Hout:=Aa (fun N v (hv:Ge (Af xs) N k v) (hl:(Aw v).length<=8000000) P b W (hW:En P W b (Bt (Af xs) k v))=>Zw g1.1.1 P N k v hv g2 b W hW (ad hl aL));have Hne:=Aa (fun N v (hv:Ge (Af xs) N k v)=>show 1<=(Aw v).length from by obtain⟨c,r,e,_⟩:=Qfd hv;rw[e];simp);unfold Tz at HD HD4;generalize Be k=kb at *;have HB:=Aa Qgp;obtain⟨xv,hxv⟩:∃xv:Value,xv=.slice A0 xs.length c0:=⟨_,rfl⟩
  rw[<-hxv]at HSc HD HD4 ⊢;clear hform g1 g2 g4 hxv Hk Hgood;go_wp2_with fail;refine(HD4.o g p w1 HSc.o HR1.o aI).mono ?_;rintro e w2 ⟨b,v,q,rfl,k1,k2,k3,k4,k5,k6⟩;have Hg2:=Aa k6;have HR2:=Aa k5;have Hs2:=Aa k4;have hv1:=Hne.o _ v k1;have Hok:=Aa k1;clear k1 k4 k5 k6;go_wp2_with fail;refine(Hout.o _ v Hok.o aI _ b w2 Hs2.o).mono ?_;rintro e w3 ⟨rfl,hb3⟩;have HR3:=Aa (HR2.o.below hb3);have Hg3:=Aa (Ad Hg2.o (Cb hb3 _));clear hb3 Hok Hs2 HR2 Hg2;generalize Aw v=t0 at *;go_wp2_with fail;go_loopw [9,10] (fun tv dv wr=>∃(t:List UInt8) (j q:Nat),tv=t/\dv=(j:Int)/\j<=3/\1<=t.length/\t.length<=8000000/\Hid (j=0->t.length<=14500)/\q<=p+8000000*(4 - j)/\Hid (E4 wr g q)/\Hid (w1.grownBy wr (some g))) (fun _ dv _=>(intOf dv).toNat)
  case atStart=>exact⟨t0,3,q,rfl,rfl,Al _,hv1,k2,fun h=>by omega,by omega,HR3.o,Hg3.o⟩
  case round=>
   obtain⟨t,j,q,rfl,rfl,hj,ht1,ht2,ht3,hq,hRr,hgr⟩:=hrel;have hj0:(0:Int)<=(j:Int):=aI;by_cases hgo:150<t.length/\0<j
   ·obtain⟨hlong,hj1⟩:=hgo;have hli:(150:Int)<(t.length:Int):=aI;have hji:(0:Int)<(j:Int):=aI;have hBj:=HB.o j aI;have HSr:=@Aa (Gj wr xv xs) (HSc.o.grown HR1.o hgr.o);go_wp2_with fail;refine(HD.o j aI g q wr HSr.o hRr.o aI).mono ?_;rintro e w4 ⟨b4,v4,q4,rfl,k1,k2,k3,k4,k5,k6⟩;have Hg4:=Aa (Ad hgr.o k6);have HR4:=Aa k5;have Hs4:=Aa k4;have hv4:=Hne.o _ v4 k1;have Hok4:=Aa k1;clear k1 k4 k5 k6;go_wp2_with fail;refine(Hout.o _ v4 Hok4.o aI _ b4 w4 Hs4.o).mono ?_;rintro e w5 ⟨rfl,hb5⟩;have HR5:=Aa (HR4.o.below hb5);have Hg5:=Aa (Ad Hg4.o (Cb hb5 _));clear hb5 Hok4 Hs4 HR4 Hg4;generalize Aw v4=t4 at *;have hwd:IntKind.i64.wrap ((j:Int) - 1)=(j:Int) - 1:=IntWalk.i64_in _ aI;go_wp2_with fail;go_roundw
    case rel=>exact⟨t4,j - 1,q4,rfl,by go_num,by omega,hv4,by omega,(fun h=>ad (show t4.length<=hiB 1 from(show j=1 by omega) ▸ k2) aL),by omega,HR5.o,Hg5.o⟩
    case measure=>simp[intOf];omega
   ·have hlt:t.length<=14500:=by
     by_cases h150:150<t.length
     ·have:j=0:=aI;exact ht3.o this
     omega
    have hdec:(decide ((150:Int)<(t.length:Int))=false)\/(decide ((150:Int)<(t.length:Int))=true/\j=0):=by
     by_cases h150:150<t.length
     ·exact .inr ⟨aE aI,by omega⟩
     exact .inl (aD aI)
    have hti:(t.length:Int)<=14500:=aI;clear hgo ht3;obtain⟨W6,rfl⟩:∃W6:World,W6=wr:=⟨_,rfl⟩
    rcases hdec with hd1|⟨hd1,rfl⟩<;>
    ·go_wp2_with fail;refine(Bn g q 24 _ hRr.o aI aI aI).mono ?_;rintro e w8 ⟨z,rfl,hz1,_,hR8,hg8⟩;have HR8:=Aa hR8;have Hg8:=Aa (Ad Hg1.o (Ad hgr.o hg8));have hg8l:=hR8.lt;clear hR8 hg8 hz1;by_cases hz0:z=0
     ·subst hz0;go_wp2_with fail;refine(Bn g (q+1) _ _ HR8.o aI aI aI).mono ?_;rintro e w9 ⟨k,rfl,hk1,_,hR9,hg9⟩;have hk1:=hk1 aI;have hk:k<t.length:=aI;have i5:(0:Int)<=(k:Int):=aI;have i6:(k:Int)<(t.length:Int):=aI;obtain⟨q9,hq9,HR9⟩:∃q9,q9<=q+2/\Hid (E4 w9 g q9):=⟨_,by omega,Aa hR9⟩
      have Hg9:=Aa (Ad Hg8.o hg9);clear hR9 hg9 HR8 Hg8;have hwr:IntKind.i64.wrap ((k:Int)+1)=(k:Int)+1:=IntWalk.i64_in _ aI;go_wp2_with fail;refine Xa [47,48,49,50,51,52,53,54,55,56,57,58,59,60,6]
       (fun ix v W=>match ix with|0=>v=(t:List UInt8)|1=>v=(k:Int)|2=>v=(t.take k:List UInt8)|3=>∃b,v=.slice (some ⟨b,0,none⟩) 5 5|4=>v=g|5=>∃y:Nat,v=(y:Int)/\y<5|6=>∃b y,v=.pointer (some ⟨b,y,none⟩)|7=>∃i,i∈Zu/\v=.string ⟨i.toArray⟩|8=>∃i,i∈Zu/\v=.string ⟨(t.take k++i).toArray⟩|9=>v=(t:List UInt8)|10=>v=(k:Int)|11=>v=.int .i64 ((k:Int)+1)|12=>v=.string ⟨(t.drop (k+1):List UInt8).toArray⟩|13=>∃i,i∈Zu/\v=.string ⟨(t.take k++(i++t.drop (k+1))).toArray⟩|14=>∃i,i∈Zu/\v=.string ⟨(t.take k++(i++t.drop (k+1))).toArray⟩|_=>True)
       (fun L U W=>E4 W g (if L 5=true then q9+1 else q9)/\w.grownBy W (some g)/\(L 3=true->∃b,U 3=.slice (some ⟨b,0,none⟩) 5 5/\b≠g/\Jw W b Zu)/\(L 6=true->∃b y,U 6=.pointer (some ⟨b,y,none⟩)/\b≠g/\y<5/\Jw W b Zu)) (⟨by simpa using HR9.o.ddrew,Fu Hg9.o,fun h=>Bool.noConfusion h,fun h=>Bool.noConfusion h⟩) ?_ ?_
      ·repeat (first|exact Bb.nil|(refine Bb.cons ?_ ?_;rotate_left))
       all_goals
        rintro L U W hL hpre HR Hdep K hK;obtain⟨hR0,hG0,R3,R6⟩:=HR.o;first|(simp[Region.binds]at hpre;done)|simp[Region.binds]at hpre|clear hpre
       iterate 2
        ·exact gn
       ·exact gS
       ·have hgl:=hR0.lt;go_simp;exact hK _ _ _ ⟨_,rfl⟩ Ae ⟨by simpa using hR0.dalloc _,Ad hG0 (World.grownBy_alloc W _ _),fun _=>⟨W.heap.size,rfl,by omega,Jw.new W Zu⟩,fun h=>by obtain⟨b,y,q1,q2,q3,q4⟩:=R6 aU;exact⟨b,y,by simpa using q1,q2,q3,q4.grown (World.grownBy_alloc W _ (some g)) q2⟩⟩ rfl
       ·exact gn
       ·go_simp;have hR1:E4 W g q9:=by simpa [hL]using hR0
        refine(Bn g q9 5 W hR1 aI aI aI).mono ?_;rintro e w' ⟨y,rfl,hy1,_,hRy,hgy⟩;exact hK _ _ _ ⟨y,rfl,by omega⟩ Ae ⟨by simpa using hRy,Ad hG0 hgy,fun h=>by obtain⟨b,q1,q2,q3⟩:=R3 aU;exact⟨b,by simpa using q1,q2,q3.grown hgy q2⟩,fun h=>by obtain⟨b,y,q1,q2,q3,q4⟩:=R6 aU;exact⟨b,y,by simpa using q1,q2,q3,q4.grown hgy q2⟩⟩ aJ
       ·obtain⟨⟨l3,_⟩,l5,y,u5,hy⟩:=hpre;obtain⟨b,u3,hb,hT⟩:=R3 l3;have y1:(0:Int)<=(y:Int):=aI;have y2:(y:Int)<5:=aI;go_simp;exact hK _ _ _ ⟨b,y,rfl⟩ Ae ⟨by simpa using hR0,hG0,fun h=>by obtain⟨b,q1,q2,q3⟩:=R3 aU;exact⟨b,by simpa using q1,q2,q3⟩,fun _=>⟨b,y,rfl,hb,hy,hT⟩⟩ (by simp[Act.put,u3,u5])
       ·obtain⟨l6,_⟩:=hpre;obtain⟨b,y,u6,hb,hy,hT⟩:=R6 l6;obtain⟨s7,hm7,hc7⟩:=hT.cell (show y<Zu.length from hy);go_simp;exact hK _ _ _ ⟨s7,hm7,rfl⟩ Ae ⟨by simpa using hR0,hG0,fun h=>by obtain⟨b,q1,q2,q3⟩:=R3 aU;exact⟨b,by simpa using q1,q2,q3⟩,fun h=>by obtain⟨b,y,q1,q2,q3,q4⟩:=R6 aU;exact⟨b,y,by simpa using q1,q2,q3,q4⟩⟩ (by simp[Act.put,u6])
       ·obtain⟨⟨_,u2⟩,_,i,hi,u7⟩:=hpre;have hil:i.length<=1:=(show ∀i∈Zu,i.length<=1 by decide) i hi;go_simp;rw[if_neg aO];go_simp;exact hK _ _ _ ⟨i,hi,rfl⟩ Ae ⟨by simpa using hR0,hG0,fun h=>by obtain⟨b,q1,q2,q3⟩:=R3 aU;exact⟨b,by simpa using q1,q2,q3⟩,fun h=>by obtain⟨b,y,q1,q2,q3,q4⟩:=R6 aU;exact⟨b,y,by simpa using q1,q2,q3,q4⟩⟩ (by simp[Act.put,u2,u7])
       iterate 3
        ·exact gn
       ·exact gS
       ·obtain⟨⟨_,i,hi,u8⟩,_,u12⟩:=hpre;have hil:i.length<=1:=(show ∀i∈Zu,i.length<=1 by decide) i hi;go_simp;rw[if_neg aO];go_simp;exact hK _ _ _ ⟨i,hi,rfl⟩ Ae ⟨by simpa using hR0,hG0,fun h=>by obtain⟨b,q1,q2,q3⟩:=R3 aU;exact⟨b,by simpa using q1,q2,q3⟩,fun h=>by obtain⟨b,y,q1,q2,q3,q4⟩:=R6 aU;exact⟨b,y,by simpa using q1,q2,q3,q4⟩⟩ (by simp[Act.put,u8,u12])
       ·obtain⟨⟨_,i,hi,u13⟩,hrest⟩:=hpre;go_simp;exact hK _ _ _ ⟨i,hi,rfl⟩ Ae ⟨by simpa using hR0,hG0,fun h=>by obtain⟨b,q1,q2,q3⟩:=R3 aU;exact⟨b,by simpa using q1,q2,q3⟩,fun h=>by obtain⟨b,y,q1,q2,q3,q4⟩:=R6 aU;exact⟨b,y,by simpa using q1,q2,q3,q4⟩⟩ (by simp[Act.put,u13,hrest])
      rintro L U W hL hφ hR;obtain⟨i,hi,e14⟩:=hφ 14 aL;simp only[e14];have hR0:E4 W g (q9+1):=by simpa [hL 5 aL]using hR.1
      have hG0:=hR.2.1;clear hφ hL hR;go_wp2_with fail;go_ret;have hil:i.length<=1:=(show ∀i∈Zu,i.length<=1 by decide) i hi;exact⟨_,q9+1,rfl,by simp;omega,by omega,hR0,hG0⟩
     have tz:((z:Int) == 0)=false:=aO;clear hz0;go_wp2_with fail;go_ret;exact⟨t,q+1,rfl,by omega,by omega,HR8.o,Hg8.o⟩
theorem Qo2:DrH DSc DKs:=
 ⟨fun l h=>by have:=h.1;omega,fun l h=>by have:=h.len;omega,fun g p W h hp=>Qau g p W h (by omega),fun g p s W h hp hs=>Qd8 g p s W h (by omega) (by omega),fun g p s k W h hp hs hk=>Qji g p s k W h (by omega) (by omega) (by omega)⟩
theorem FnBytesCanon_walk(w:World)(A:Option Addr)(n c:Nat)(l:List UInt8)(h:Ca w A n (Cf l))(hc:n<=c)(hcm:c<=maxLen):
  Calls prog 8 #[.slice A n c] w fun e w'=>e=.returned (.bool true)/\Below w.heap.size w w':=
 Sg w A n c fun hn=>Sp Qo2 A n c l w h hc hcm fun s d x h1 h2 h3 W=>(Qa3 s d x W (by omega) (by omega) (by omega)).mono fun e w' h=>by
  obtain⟨rfl,hb⟩:=h
  refine⟨_,_,rfl,?_,hb⟩
  cases ho:bpL (Bq s d) x with
  |none=>simp
  |some t=>exact Qng ho
end
section
open Go.ChangeShapes Go.WideShapes Go.ChangeAt Go.RowKit
open Go.ChangeMaps (open_string shut_string)
theorem Zj{α:Type}(l:List α)(d:α){j:Nat}(h:j<l.length):l.getD j d=l[j]:=by simp[List.getD,h]
theorem own:ownKnob prog.godebug=none:=aN
theorem laidOut:laidOutB prog=true:=aN
section
variable {H:Type} {enc:TypeId × Value->H} {W:World} {base:Nat} {v:Value} {d:DataW H} {ps:List MemPlace}
theorem arg_bytes(hv:Value.okWide prog W .any base 22 v)(h:DataW.Trod enc prog W 0 (fun _=>true) true 22 v d ps)(hlt:∀x∈ps,x.block<W.heap.size):
  ∃A n c,∃l:List UInt8,v=.slice A n c/\Ca W A n (Cf l)/\n<=c/\c<=maxLen:=by
 obtain⟨A,n,c,rfl⟩:=okWide_slice underlying22 hv;obtain⟨fuel,hf⟩:=h;rcases open_ints underlying22 underlying5 aN hf with⟨hcs,_⟩|⟨x,n',c',zs,hcs,_,hl,hm,hz,_,hcell,hwz⟩
 ·simp[Value.cells]at hcs;obtain⟨rfl,rfl,rfl⟩:=hcs;exact⟨none,0,0,[],rfl,⟨rfl,ag _,fun h=>absurd h aI⟩,Al _,ag _⟩
 simp[Value.cells]at hcs;obtain⟨rfl,rfl,rfl⟩:=hcs;simp at hz;refine⟨some x,n,c,(zs.take n).map fun z=>UInt8.ofNat z.toNat,rfl,⟨by simp[Cf];omega,ad hl hm,fun hn=>?_⟩,hl,hm⟩;have h0:=hcell 0 aI;obtain⟨b,off,spot⟩:=x;have hspot:spot=none:=by simpa [Addr.add]using World.cell?_spot h0
 subst hspot;refine⟨b,off,rfl,?_,fun j u hu=>?_⟩
 ·have:=World.block_lt_of_cell? W _ h0;simpa [Addr.add]using this
 have hj:j<n:=by
  have:=(List.getElem?_eq_some_iff.1 hu).1;simp[Cf]at this;omega
 have h1:=hcell j aI;have e1:(⟨b,off,none⟩:Addr).add j=⟨b,off+j,none⟩:=bq;rw[e1]at h1;rw[h1];have hw:=hwz (zs.getD j 0) (by rw[Zj _ _ aI];exact ae _);have hb2:0<=zs.getD j 0/\zs.getD j 0<=255:=by
  simp[Lit.wf,IntKind.min,IntKind.max,IntKind.signed,IntKind.bits]at hw;simpa using hw
 simp only[Cf,List.getElem?_map,List.getElem?_take]at hu;rw[if_pos hj,List.getElem?_eq_getElem (by omega:j<zs.length)]at hu;simp at hu;rw[<-hu];rw[Zj _ _ (by omega:j<zs.length)]at hb2 ⊢;congr 2
 omega
end
end
end Go.Proofs.YtmmhmlmfhpfgbaaGreatDoor
