/- Texts joined. Conditions: as each theorem names them. -/
import Derived.Deep.RegionWith
import Derived.Test.YtpjijpcemejlnaaGreatDoorR02
set_option maxRecDepth 100000
set_option maxHeartbeats 32000000
set_option linter.unusedVariables false
set_option linter.unusedSimpArgs false
namespace Go.Proofs.YtpjijpcemejlnaaGreatDoor
open Go.RowKit Go.Proofs.Tryz
section
attribute [local go_sem] Qm0 Ql8 Qlz Qj6 ByteArray.mk_append_mk
theorem Ad{a b c:World}{row:Option Nat}(h:a.grownBy b row)(k:b.grownBy c row):a.grownBy c row:=
 ⟨k.os.trans h.os,k.tape.trans h.tape,k.output.trans h.output,ae h.size k.size,fun i hi hne=>(k.block i (ad hi h.size) hne).trans (h.block i hi hne)⟩
theorem Ce{a w:World}(h:Below a a w)(row:Option Nat):a.grownBy w row:=⟨h.os,h.tape,h.output,h.size,fun i hi _=>h.block i hi⟩
theorem Ft{a b:World}{row:Option Nat}(h:a.grownBy b row):a.grownBy b.drew row:=⟨h.os,h.tape,h.output,h.size,h.block⟩
theorem Et.ddrew{w:World}{g p:Nat}(h:Et w g p):Et w.drew g p:=h
theorem Et.dalloc{w:World}{g p:Nat}(h:Et w g p)(o:Obj):Et (w.alloc o) g p:=h.below ((Am _ _).alloc (Ao _) o)
def H9(W:World)(b:Nat)(ls:List (List UInt8)):Prop:=W.heap[b]?=some (.cells (B6 ls).toArray 9 (0,0))
theorem H9.new(W:World)(ls:List (List UInt8)):H9 (W.alloc (.cells (B6 ls).toArray 9)) W.heap.size ls:=heap_alloc_new W _
theorem H9.lt{W:World}{b:Nat}{ls:List (List UInt8)}(h:H9 W b ls):b<W.heap.size:=by
 rcases aH b W.heap.size with h1|h1
 ·exact h1
 unfold H9 at h;rw[Array.getElem?_eq_none h1]at h;cases h
theorem H9.grown{W W':World}{b r:Nat}{ls:List (List UInt8)}(h:H9 W b ls)(hg:W.grownBy W' (some r))(hne:b≠r):H9 W' b ls:=
 (hg.block b h.lt (fun e=>hne (Option.some.inj e))).trans h
theorem H9.cell{W:World}{b j:Nat}{ls:List (List UInt8)}(h:H9 W b ls)(hj:j<ls.length):∃s,s∈ls/\W.cell? ⟨b,j,none⟩=some (.string ⟨s.toArray⟩):=
 ⟨ls[j],af hj,by unfold H9 at h;simp[World.cell?,h,B6,hj]⟩
def To(Q:List UInt8->Prop)(w:World)(g p m:Nat)(e:Ending)(w':World):Prop:=
 ∃(l:List UInt8) (q:Nat),e=.returned l/\Q l/\q<=p+m/\Et w' g q/\w.grownBy w' (some g)
def Qn:List (List UInt8):=[[110],[116],[102],[110],[116],[64,97,59],[64,98,59],[64,99,59]]
def Q5:List (List UInt8):=[[],[120],[64,59],[64,65,59],[91],[63,63,63,63,63,63,63,63,63,63,63,63,63,63,110],[64,97],[110,110]]
def DK(l:List UInt8):Prop:=(∃sg b,l=sg++b/\sg.length<=2/\sg.all Bn=true/\b∈Qn)\/l∈Q5
theorem DK.len{l:List UInt8}(h:DK l):l.length<=15:=by
 rcases h with⟨sg,b,rfl,h1,_,h3⟩|h
 ·have:∀b∈Qn,b.length<=3:=aL;have:=this b h3;rw[ai];omega
 have:∀b∈Q5,b.length<=15:=aL;exact this l h
theorem Nk(g p:Nat)(w:World)(h:Et w g p)(hp:p<=100000000):
  Calls prog 69 #[g] w (To DK w g p 7):=by
 have hgl:=h.lt;have HR:=Aa h;clear h;go_enter func69,ntmps69;go_wp2_with fail;refine(Bj g p 8 _ (HR.o.dalloc _) aI aI aI).mono ?_;rintro e w1 ⟨x,rfl,hx1,_,hR1,hg1⟩;have hx:x<Qn.length:=by show x<8;omega
 obtain⟨b,hbm,hcell⟩:=((H9.new w Qn).grown hg1 aI).cell hx;have hbl:b.length<=3:=(show ∀b∈Qn,b.length<=3 by decide) b hbm;have i1:(0:Int)<=(x:Int):=aI;have i2:(x:Int)<8:=aI;have HR1:=Aa hR1;have Hg1:=Aa (Ad (World.grownBy_alloc w _ (some g)) hg1);have Hbm:=Aa hbm;clear hR1 hg1 hbm HR hx hx1;go_wp2_with fail;refine(Bj g (p+1) 4 _ HR1.o aI aI aI).mono ?_;rintro e w2 ⟨y,rfl,hy1,_,hR2,hg2⟩;have hy:y<=3:=aI;have HR2:=Aa hR2;have Hg2:=Aa (Ad Hg1.o hg2);clear hR2 hg2 HR1 Hg1 hy1 hcell;go_wp2_with fail;go_loopw [3,4] (fun s k wr=>∃(sg:List UInt8) (x q:Nat),s=.string ⟨(sg++b).toArray⟩/\k=.int .i64 x/\sg.length+x<=3/\(x=0->sg=[])/\Hid (sg.all Bn=true)/\q+x<=p+5/\g<wr.heap.size/\Hid (Et wr g q)/\Hid (w.grownBy wr (some g))) (fun _ k _=>(intOf k).toNat)
 case atStart=>exact⟨[],y,p+2,by simp,rfl,by simp;omega,fun _=>rfl,rfl,by omega,HR2.o.lt,HR2.o,Hg2.o⟩
 case round=>
  obtain⟨sg,x,q,rfl,rfl,hlen,h0,hsg,hq,hgw,hR,hg⟩:=hrel;by_cases hx:1<x
  ·have hxi:(1:Int)<(x:Int):=aI;go_wp2_with fail;refine(Bj g q 3 _ (hR.o.dalloc _) aI aI aI).mono ?_;rintro e w3 ⟨z,rfl,hz1,_,hR3,hg3⟩;have hz:z<([[91],[63],[91]]:List (List UInt8)).length:=by show z<3;omega
   obtain⟨s3,hsm,hcell⟩:=((H9.new wr [[91],[63],[91]]).grown hg3 aI).cell hz;obtain⟨c,rfl,hc⟩:∃c,s3=[c]/\Bn c=true:=by
    simp at hsm;rcases hsm with rfl|rfl|rfl
    ·exact⟨91,rfl,by decide⟩
    ·exact⟨63,rfl,by decide⟩
    exact⟨91,rfl,by decide⟩
   have j1:(0:Int)<=(z:Int):=aI;have j2:(z:Int)<3:=aI;have HR3:=Aa hR3;have hg3l:=hR3.lt;have Hg3:=Aa (Ad hg.o (Ad (World.grownBy_alloc wr _ (some g)) hg3));have Hc:=Aa hc;have Hsg:=Aa hsg.o;clear hR3 hg3 hsm hc;go_wp2_with fail;go_roundw
   case rel=>exact⟨c::sg,x - 1,q+1,by simp,by go_num,by simp;omega,fun h=>by omega,by show List.all _ _=_;rw[List.all_cons,Hc.o,Hsg.o];rfl,by omega,hg3l,HR3.o,Hg3.o⟩
   case measure=>simp[intOf];omega
  ·have hxi:¬(1:Int)<(x:Int):=aI
   have Hsl:=Aa (show sg.length<=2 by
    by_cases hx0:x=0
    ·rw[h0 hx0];simp
    omega)
   have HRa:=Aa hR.o;have Hga:=Aa hg.o;have Hsg:=Aa hsg.o;go_wp2_with fail;refine(Bj g q 30 _ HRa.o aI aI aI).mono ?_;rintro e w3 ⟨z,rfl,hz1,_,hR3,hg3⟩;have HR3:=Aa hR3;have Hg3:=Aa (Ad Hga.o hg3);have hg3l:=hR3.lt;clear hR3 hg3 HRa Hga;by_cases hz0:z=0
   ·subst hz0;go_wp2_with fail;refine(Bj g (q+1) 8 _ (HR3.o.dalloc _) aI aI aI).mono ?_;rintro e w4 ⟨u,rfl,hu1,_,hR4,hg4⟩;have hu:u<Q5.length:=by show u<8;omega
    obtain⟨s4,hsm,hcell⟩:=((H9.new w3 Q5).grown hg4 aI).cell hu;have k1:(0:Int)<=(u:Int):=aI;have k2:(u:Int)<8:=aI;have HR4:=Aa hR4;have Hg4:=Aa (Ad Hg3.o (Ad (World.grownBy_alloc w3 _ (some g)) hg4));have Hsm:=Aa hsm;clear hR4 hg4 hsm;go_wp2_with fail;go_ret;exact⟨s4,q+1+1,rfl,.inr Hsm.o,by omega,HR4.o,Hg4.o⟩
   have hz2:((z:Int) == 0)=false:=aO;go_wp2_with fail;go_ret;exact⟨sg++b,q+1,rfl,.inl ⟨sg,b,rfl,Hsl.o,Hsg.o,Hbm.o⟩,by omega,HR3.o,Hg3.o⟩
def K0(c:UInt8):Bool:=!Bn c && c != 64
theorem Yn{c:UInt8}(h:K0 c=true)(st:Nat × Nat):Rw st c=some (st.2,0):=by
 simp only[K0,ax,Bool.not_eq_true',bne_iff_ne]at h;unfold Rw;rw[h.1,if_neg aL,if_neg (fun e=>h.2 e.1)]
theorem Qga:∀(p:List UInt8),p.all K0=true->∀u v,p≠[]->∃u' v',mach (u,v) p=some (u',v')/\(v=0->u'=0)/\v'=0/\u'<=v
 |[],_,_,_,h=>absurd rfl h
 |[c],h,u,v,_=>by
  simp only[List.all_cons,List.all_nil,Bool.and_true]at h;refine⟨v,0,?_,fun e=>e,rfl,Ao _⟩;rw[mach,Yn h];rfl
 |c::d::p,h,u,v,_=>by
  simp only[List.all_cons,ax]at h;obtain⟨u',v',e,h1,h2,h3⟩:=Qga (d::p) (by simp only[List.all_cons,ax];exact h.2) v 0 aN;refine⟨u',v',?_,fun _=>h1 rfl,h2,by omega⟩;rw[mach,Yn h.1];exact e
theorem Qdc{p:List UInt8}(h:p.all K0=true)(hn:p≠[])(u:Nat):mach (u,0) p=some (0,0):=by
 obtain⟨u',v',e,h1,h2,_⟩:=Qga p h u 0 hn;rw[e,h1 rfl,h2]
def Ko(l:List UInt8):Prop:=∀u,u<=14->∃u' v',mach (u,0) l=some (u',v')/\u'<=14/\v'<=14
def Fj(l:List UInt8):Prop:=∀u,u<=14->∃u',mach (u,0) l=some (u',0)/\u'<=14
theorem Ko.sep{l:List UInt8}(h:Ko l){c:UInt8}(hc:K0 c=true):Fj (l++[c]):=fun u hu=>by
 obtain⟨u',v',e,h1,h2⟩:=h u hu;refine⟨v',?_,h2⟩;rw[Ge,e];simp only[mach];rw[Yn hc]
theorem Fj.app{a b:List UInt8}(h:Fj a)(k:Fj b):Fj (a++b):=fun u hu=>by
 obtain⟨u',e,h1⟩:=h u hu;obtain⟨u2,e2,h2⟩:=k u' h1;exact⟨u2,by rw[Ge,e];exact e2,h2⟩
theorem Fj.appF{a b:List UInt8}(h:Fj a)(k:Ko b):Ko (a++b):=fun u hu=>by
 obtain⟨u',e,h1⟩:=h u hu;obtain⟨u2,v2,e2,h2,h3⟩:=k u' h1;exact⟨u2,v2,by rw[Ge,e];exact e2,h2,h3⟩
theorem Fj.plain{p:List UInt8}(h:p.all K0=true)(hn:p≠[]):Fj p:=fun u hu=>⟨0,Qdc h hn u,by omega⟩
theorem Fj.toF{l:List UInt8}(h:Fj l):Ko l:=fun u hu=>by
 obtain⟨u',e,h1⟩:=h u hu;exact⟨u',0,e,h1,by omega⟩
theorem Fj.nil:Fj []:=fun u hu=>⟨u,rfl,hu⟩
def okM(l:List UInt8)(v:Nat):Bool:=match mach (0,v) l with|some (a,b)=>decide (a<=14) && decide (b<=14)|none=>false
theorem Xp{l:List UInt8}{v:Nat}(h:okM l v=true):∃a b,mach (0,v) l=some (a,b)/\a<=14/\b<=14:=by
 unfold okM at h;cases e:mach (0,v) l with
 |none=>rw[e]at h;cases h
 |some x=>
  obtain⟨a,b⟩:=x;rw[e]at h;simp only[ax,decide_eq_true_eq]at h;exact⟨a,b,rfl,h.1,h.2⟩
theorem DK.mach{l:List UInt8}(h:DK l):∃a b,Go.Proofs.YtpjijpcemejlnaaGreatDoor.mach (0,0) l=some (a,b)/\a<=14/\b<=14:=by
 rcases h with⟨sg,b,rfl,h1,h2,h3⟩|h
 ·rw[Ge,J9 sg _ h2];simp only[ao];have hd:∀b∈Qn,okM b 0=true/\okM b 1=true/\okM b 2=true:=aL;obtain⟨d0,d1,d2⟩:=hd b h3;rcases(show sg.length=0\/sg.length=1\/sg.length=2 by omega)with e|e|e<;>rw[e]
  ·exact Xp d0
  ·exact Xp d1
  exact Xp d2
 have hd:∀l∈Q5,okM l 0=true:=aL;exact Xp (hd l h)
theorem Ko.kind{p k:List UInt8}(hp:p.all K0=true)(hn:p≠[])(hk:DK k):Ko (p++k):=fun u hu=>by
 rw[Ge,Qdc hp hn u];exact hk.mach
theorem Qh9{c:UInt8}(h:Bm c=true):K0 c=true:=by
 have:=Do.1 h;have h1:c≠91:=fV;have h2:c≠63:=fV;have h3:c≠64:=fV;simp[K0,Bn,h1,h2,h3]
theorem Qbs(n:Nat):(Bb n).all K0=true:=List.all_eq_true.2 fun c hc=>Qh9 (List.all_eq_true.1 (Nx n) c hc)
def Qjj:List (List UInt8):=[[53],[55,55],[57,57,57,57,57,57],[48]]
def Qj0:List (List UInt8):=[[104,105],[97,32,98],[]]
def Qjr:List (List UInt8):=[[121,101,115],[121,101,115],[110,111]]
theorem H4(g p:Nat)(c:UInt8)(tag:Nat)(nm:List UInt8)(w:World)(h:Et w g p)(hp:p<=100000000)(hc:c=82\/c=85\/c=69)(ht:tag<=99)(hn:nm.length<=1)(hpl:nm.all K0=true):
  Calls prog 151 #[g,.string ⟨[c].toArray⟩,(tag:Int),nm] w (To (fun l=>Ko l/\l.length<=20) w g p 9):=by
 have hgl:=h.lt;have HR:=Aa h;have Hd:=Aa (fun W=>Gf tag tag W (Ao _) aI);have hd2:=Db 1 tag (by have e:10 ^ (1+1)=100:=rfl;omega)
 have Hpre:=Aa (show (Bb tag++58::nm).all K0=true/\(Bb tag++58::nm)≠[]by
  refine⟨?_,by simp⟩;rw[List.all_append,List.all_cons,Qbs,hpl];decide)
 have Hpre2:=Aa (show (Bb tag++58::(nm++[58])).all K0=true/\(Bb tag++58::(nm++[58]))≠[]by
  refine⟨?_,by simp⟩;rw[List.all_append,List.all_cons,List.all_append,Qbs,hpl];decide)
 have Hnp:=Aa hpl;have Hdp:=Aa (Qbs tag);clear h hpl;generalize Bb tag=dt at *;go_enter func151,ntmps151;go_wp2_with fail;refine(Hd.o _).mono ?_;rintro e w1 ⟨rfl,hb1⟩;have HR1:=Aa (HR.o.below hb1);have Hg1:=Aa (Ce hb1 (some g));clear hb1 HR;rcases hc with rfl|rfl|rfl
 ·go_wp2_with fail;refine(Nk g p _ HR1.o hp).mono ?_;rintro e w2 ⟨l,q,rfl,hl,hq,hR2,hg2⟩;have hll:=hl.len;have Hl:=Aa hl;have HR2:=Aa hR2;have Hg2:=Aa (Ad Hg1.o hg2);clear hl hR2 hg2 HR1 Hg1;go_wp2_with fail;refine(Bj g q 3 _ HR2.o aI aI aI).mono ?_;rintro e w3 ⟨z,rfl,hz1,_,hR3,hg3⟩;have HR3:=Aa hR3;have hg3l:=hR3.lt;have Hg3:=Aa (Ad Hg2.o hg3);clear hR3 hg3 HR2 Hg2;by_cases hz0:z=0
  ·subst hz0;by_cases hn1:l=[110]
   ·subst hn1;go_wp2_with fail;refine(Bj g (q+1) 8 _ (HR3.o.dalloc _) aI aI aI).mono ?_;rintro e w4 ⟨u,rfl,hu1,_,hR4,hg4⟩;have hu:u / 2 % 4<Qjj.length:=by show u / 2 % 4<4;omega
    obtain⟨s4,hsm,hcell⟩:=((H9.new w3 Qjj).grown hg4 aI).cell hu;have hs4:=(show ∀l∈Qjj,l.all K0=true/\l.length<=6 by decide) s4 hsm;have hs4l:=hs4.2;have k1:(0:Int)<=(u:Int) / 2 % 4:=aI;have k2:(u:Int) / 2 % 4<4:=aI;have HR4:=Aa hR4;have Hg4:=Aa (Ad Hg3.o (Ad (World.grownBy_alloc w3 _ (some g)) hg4));have Hs4:=Aa hs4;clear hR4 hg4 hsm hs4;go_wp2_with fail;go_ret;exact⟨dt++58::(nm++58::110::61::s4),q+1+1,by simp,⟨(Fj.plain cZ aN).toF,by have:=Hs4.o.2;simp;omega⟩,by omega,HR4.o,Hg4.o⟩
   have tn:(l == [110])=false:=by simpa using hn1
   by_cases hn2:l=[116]
   ·subst hn2;go_wp2_with fail;refine(Bj g (q+1) 7 _ (HR3.o.dalloc _) aI aI aI).mono ?_;rintro e w4 ⟨u,rfl,hu1,_,hR4,hg4⟩;have hu:u / 3<Qj0.length:=by show u / 3<3;omega
    obtain⟨s4,hsm,hcell⟩:=((H9.new w3 Qj0).grown hg4 aI).cell hu;have hs4:=(show ∀l∈Qj0,l.all K0=true/\l.length<=3 by decide) s4 hsm;have hs4l:=hs4.2;have k1:(0:Int)<=(u:Int) / 3:=aI;have k2:(u:Int) / 3<3:=aI;have HR4:=Aa hR4;have Hg4:=Aa (Ad Hg3.o (Ad (World.grownBy_alloc w3 _ (some g)) hg4));have Hs4:=Aa hs4;clear hR4 hg4 hsm hs4;go_wp2_with fail;go_ret;exact⟨dt++58::(nm++58::116::61::39::(s4++[39])),q+1+1,by simp,⟨(Fj.plain cZ aN).toF,by have:=Hs4.o.2;simp;omega⟩,by omega,HR4.o,Hg4.o⟩
   have tt:(l == [116])=false:=by simpa using hn2
   by_cases hn3:l=[102]
   ·subst hn3;go_wp2_with fail;refine(Bj g (q+1) 7 _ (HR3.o.dalloc _) aI aI aI).mono ?_;rintro e w4 ⟨u,rfl,hu1,_,hR4,hg4⟩;have hu:u / 3<Qjr.length:=by show u / 3<3;omega
    obtain⟨s4,hsm,hcell⟩:=((H9.new w3 Qjr).grown hg4 aI).cell hu;have hs4:=(show ∀l∈Qjr,l.all K0=true/\l.length<=3 by decide) s4 hsm;have hs4l:=hs4.2;have k1:(0:Int)<=(u:Int) / 3:=aI;have k2:(u:Int) / 3<3:=aI;have HR4:=Aa hR4;have Hg4:=Aa (Ad Hg3.o (Ad (World.grownBy_alloc w3 _ (some g)) hg4));have Hs4:=Aa hs4;clear hR4 hg4 hsm hs4;go_wp2_with fail;go_ret;exact⟨dt++58::(nm++58::102::61::s4),q+1+1,by simp,⟨(Fj.plain cZ aN).toF,by have:=Hs4.o.2;simp;omega⟩,by omega,HR4.o,Hg4.o⟩
   have tf:(l == [102])=false:=by simpa using hn3
   clear hn1 hn2 hn3;go_wp2_with fail;exact kS
  have tz:((z:Int) == 0)=false:=aO;clear hz0;go_wp2_with fail;exact kS
 ·go_wp2_with fail;refine(Nk g p _ HR1.o hp).mono ?_;rintro e w2 ⟨l,q,rfl,hl,hq,hR2,hg2⟩;have hll:=hl.len;have Hl:=Aa hl;have HR2:=Aa hR2;have Hg2:=Aa (Ad Hg1.o hg2);clear hl hR2 hg2 HR1 Hg1;go_wp2_with fail;go_ret;exact⟨(dt++58::(nm++[58]))++l,q,by simp,⟨Ko.kind Hpre2.o.1 Hpre2.o.2 Hl.o,by simp;omega⟩,by omega,HR2.o,Hg2.o⟩
 go_wp2_with fail;go_ret;exact⟨dt++58::nm,p,by simp,⟨(Fj.plain Hpre.o.1 Hpre.o.2).toF,by simp;omega⟩,by omega,HR1.o,Hg1.o⟩
theorem Ko.comma{l:List UInt8}(h:Ko l):Fj (l++[44]):=h.sep aL
theorem Qd(g p:Nat)(c nc:UInt8)(w:World)(h:Et w g p)(hp:p<=10000000)(hc:c=82\/c=85\/c=69)(hn:K0 nc=true):
  Calls prog 113 #[g,.string ⟨[c].toArray⟩,.string ⟨[nc].toArray⟩] w (To (fun l=>Fj l/\l.length<=88/\1<=l.length) w g p 50):=by
 have hgl:=h.lt;have HR:=Aa h
 have Hh:=Aa (show Fj [c,nc,61]from Fj.plain (by
  have hcp:K0 c=true:=by rcases hc with rfl|rfl|rfl<;>decide
  simp only[List.all_cons,List.all_nil,hcp,hn];decide) aN)
 have Hc:=Aa hc;clear h hn;go_enter func113,ntmps113;go_wp2_with fail;refine(Bj g p 4 _ HR.o aI aI aI).mono ?_;rintro e w1 ⟨x,rfl,hx1,_,hR1,hg1⟩;have hx:x<=3:=aI;have HR1:=Aa hR1;have Hg1:=Aa hg1;have hg1l:=hR1.lt;clear hR1 hg1 HR hx1;rcases hc with rfl|rfl|rfl
 ·go_wp2_with fail;refine(Bj g (p+1) 8 _ HR1.o aI aI aI).mono ?_;rintro e w2 ⟨z,rfl,hz1,_,hR2,hg2⟩;have HR2:=Aa hR2;have Hg2:=Aa (Ad Hg1.o hg2);have hg2l:=hR2.lt;clear hR2 hg2 HR1 Hg1 hz1;by_cases hz0:z=0
  ·subst hz0;go_wp2_with fail;go_loopw [7,8,10] (fun s t k wr=>∃(l:List UInt8) (tg k' q:Nat),s=l/\t=(tg:Int)/\k=(k':Int)/\k'<=0/\tg<=3*k'/\l.length<=3+21*k'/\1<=l.length/\Hid (Ko l)/\Hid (k'=0->Fj l)/\q<=(p+1+1)+11*k'/\g<wr.heap.size/\Hid (Et wr g q)/\Hid (w.grownBy wr (some g))) (fun _ _ k _=>0 - (intOf k).toNat)
   case atStart=>exact⟨[82,nc,61],0,0,(p+1+1),by simp,rfl,rfl,ah _,Ao _,by simp,by simp,Hh.o.toF,fun _=>Hh.o,by omega,HR2.o.lt,HR2.o,Hg2.o⟩
   case round=>
    obtain⟨l,tg,k,q,rfl,rfl,rfl,hk,htg,hll,hl1,hF,hL,hq,hgw,hR,hg⟩:=hrel;by_cases hlt:k<0
    ·exact absurd hlt (Nat.not_lt_zero _)
    ·have k2:¬(k:Int)<0:=aI;have HRf:=Aa hR.o;have Hgf:=Aa hg.o;have HFf:=Aa hF.o;go_wp2_with fail;go_ret;exact⟨l++[10],q,by simp,⟨HFf.o.sep aL,by simp only[ai,List.length_cons,List.length_nil];omega,by simp⟩,by omega,HRf.o,Hgf.o⟩
  have tz:((z:Int) == 0)=false:=aO;clear hz0;go_wp2_with fail;go_loopw [7,8,10] (fun s t k wr=>∃(l:List UInt8) (tg k' q:Nat),s=l/\t=(tg:Int)/\k=(k':Int)/\k'<=(1+x)/\tg<=3*k'/\l.length<=3+21*k'/\1<=l.length/\Hid (Ko l)/\Hid (k'=0->Fj l)/\q<=(p+1+1)+11*k'/\g<wr.heap.size/\Hid (Et wr g q)/\Hid (w.grownBy wr (some g))) (fun _ _ k _=>(1+x) - (intOf k).toNat)
  case atStart=>exact⟨[82,nc,61],0,0,(p+1+1),by simp,rfl,rfl,ah _,Ao _,by simp,by simp,Hh.o.toF,fun _=>Hh.o,by omega,HR2.o.lt,HR2.o,Hg2.o⟩
  case round=>
   obtain⟨l,tg,k,q,rfl,rfl,rfl,hk,htg,hll,hl1,hF,hL,hq,hgw,hR,hg⟩:=hrel;by_cases hlt:k<(1+x)
   ·have k2:(k:Int)<1+(x:Int):=aI;have k3:k<=3:=aI;go_wp2_with fail;refine(Bj g q 3 _ hR.o aI aI aI).mono ?_;rintro e w3 ⟨a,rfl,ha1,_,hR3,hg3⟩;have ha:a<=2:=aI;have HR3:=Aa hR3;have Hg3:=Aa (Ad hg.o hg3);clear hR3 hg3 ha1;go_wp2_with fail;refine(Bj g (q+1) 2 _ HR3.o aI aI aI).mono ?_;rintro e w4 ⟨b,rfl,hb1,_,hR4,hg4⟩;obtain⟨T,hT,hT2⟩:∃T:Nat,(T:Int)=(tg:Int)+1+(a:Int)*(b:Int)/\T<=3*(k+1):=by
     have hb:b=0\/b=1:=aI;rcases hb with rfl|rfl
     ·exact kK
     exact kT
    have hab:(a:Int)*(b:Int)<=2:=by
     have hb:b=0\/b=1:=aI;rcases hb with rfl|rfl
     ·simp
     simp;omega
    have hab0:0<=(a:Int)*(b:Int):=Int.mul_nonneg aI aI;have HR4:=Aa hR4;have Hg4:=Aa (Ad Hg3.o hg4);have HT:=Aa hT;have hg4l:=hR4.lt;clear hR4 hg4 HR3 Hg3 hb1 hT;by_cases hk0:k=0
    ·have HL:=Aa (hL.o hk0);have hki:¬(0:Int)<(k:Int):=aI;have hcv:=fun W=>Kx W w4 1 (C9 (112+k));rw[Dd aI]at hcv;have hu:IntKind.u8.wrap (112+(k:Int))=((112+k:Nat):Int):=hD
     have Hnm:=Aa (show ([C9 (112+k)]:List UInt8).all K0=true by
      have hk4:k=0\/k=1\/k=2\/k=3:=aI;rcases hk4 with rfl|rfl|rfl|rfl<;>decide)
     clear hk0;go_wp2_with fail;rw[<-HT.o];refine(H4 g (q+1+1) 82 T [C9 (112+k)] _ (HR4.o.dalloc _) aI aN aI aN Hnm.o).mono ?_;rintro e w5 ⟨l2,q2,rfl,⟨hl2,hl2n⟩,hq2,hR5,hg5⟩;have HR5:=Aa hR5;have hg5l:=hR5.lt;have Hg5:=Aa (Ad Hg4.o (Ad (World.grownBy_alloc w4 _ (some g)) hg5));have Hl2:=Aa hl2;clear hR5 hg5 hl2;go_wp2_with fail;go_roundw
     case rel=>exact⟨l++l2,T,k+1,q2,by simp,by first|rfl|rw[HT.o],by go_num,by omega,by omega,by rw[ai];omega,by rw[ai];omega,HL.o.appF Hl2.o,(fun h=>by omega),by omega,hg5l,HR5.o,Hg5.o⟩
     case measure=>simp[intOf];omega
    have hki:(0:Int)<(k:Int):=aI;have hcv:=fun W=>Kx W w4 1 (C9 (112+k));rw[Dd aI]at hcv;have hu:IntKind.u8.wrap (112+(k:Int))=((112+k:Nat):Int):=hD
    have Hnm:=Aa (show ([C9 (112+k)]:List UInt8).all K0=true by
     have hk4:k=0\/k=1\/k=2\/k=3:=aI;rcases hk4 with rfl|rfl|rfl|rfl<;>decide)
    have HF2:=Aa hF.o.comma;clear hk0;go_wp2_with fail;rw[<-HT.o];refine(H4 g (q+1+1) 82 T [C9 (112+k)] _ (HR4.o.dalloc _) aI aN aI aN Hnm.o).mono ?_;rintro e w5 ⟨l2,q2,rfl,⟨hl2,hl2n⟩,hq2,hR5,hg5⟩;have HR5:=Aa hR5;have hg5l:=hR5.lt;have Hg5:=Aa (Ad Hg4.o (Ad (World.grownBy_alloc w4 _ (some g)) hg5));have Hl2:=Aa hl2;clear hR5 hg5 hl2;go_wp2_with fail;go_roundw
    case rel=>exact⟨(l++[44])++l2,T,k+1,q2,by simp,by first|rfl|rw[HT.o],by go_num,by omega,by omega,by simp only[ai,List.length_cons,List.length_nil];omega,by simp only[ai,List.length_cons,List.length_nil];omega,HF2.o.appF Hl2.o,(fun h=>by omega),by omega,hg5l,HR5.o,Hg5.o⟩
    case measure=>simp[intOf];omega
   ·exact j0
 ·go_wp2_with fail;go_loopw [7,8,10] (fun s t k wr=>∃(l:List UInt8) (tg k' q:Nat),s=l/\t=(tg:Int)/\k=(k':Int)/\k'<=(1+x)/\tg<=3*k'/\l.length<=3+21*k'/\1<=l.length/\Hid (Ko l)/\Hid (k'=0->Fj l)/\q<=(p+1)+11*k'/\g<wr.heap.size/\Hid (Et wr g q)/\Hid (w.grownBy wr (some g))) (fun _ _ k _=>(1+x) - (intOf k).toNat)
  case atStart=>exact⟨[85,nc,61],0,0,(p+1),by simp,rfl,rfl,ah _,Ao _,by simp,by simp,Hh.o.toF,fun _=>Hh.o,by omega,HR1.o.lt,HR1.o,Hg1.o⟩
  case round=>
   obtain⟨l,tg,k,q,rfl,rfl,rfl,hk,htg,hll,hl1,hF,hL,hq,hgw,hR,hg⟩:=hrel;by_cases hlt:k<(1+x)
   ·have k2:(k:Int)<1+(x:Int):=aI;have k3:k<=3:=aI;go_wp2_with fail;refine(Bj g q 3 _ hR.o aI aI aI).mono ?_;rintro e w3 ⟨a,rfl,ha1,_,hR3,hg3⟩;have ha:a<=2:=aI;have HR3:=Aa hR3;have Hg3:=Aa (Ad hg.o hg3);clear hR3 hg3 ha1;go_wp2_with fail;refine(Bj g (q+1) 2 _ HR3.o aI aI aI).mono ?_;rintro e w4 ⟨b,rfl,hb1,_,hR4,hg4⟩;obtain⟨T,hT,hT2⟩:∃T:Nat,(T:Int)=(tg:Int)+1+(a:Int)*(b:Int)/\T<=3*(k+1):=by
     have hb:b=0\/b=1:=aI;rcases hb with rfl|rfl
     ·exact kK
     exact kT
    have hab:(a:Int)*(b:Int)<=2:=by
     have hb:b=0\/b=1:=aI;rcases hb with rfl|rfl
     ·simp
     simp;omega
    have hab0:0<=(a:Int)*(b:Int):=Int.mul_nonneg aI aI;have HR4:=Aa hR4;have Hg4:=Aa (Ad Hg3.o hg4);have HT:=Aa hT;have hg4l:=hR4.lt;clear hR4 hg4 HR3 Hg3 hb1 hT;by_cases hk0:k=0
    ·have HL:=Aa (hL.o hk0);have hki:¬(0:Int)<(k:Int):=aI;have hcv:=fun W=>Kx W w4 1 (C9 (112+k));rw[Dd aI]at hcv;have hu:IntKind.u8.wrap (112+(k:Int))=((112+k:Nat):Int):=hD
     have Hnm:=Aa (show ([C9 (112+k)]:List UInt8).all K0=true by
      have hk4:k=0\/k=1\/k=2\/k=3:=aI;rcases hk4 with rfl|rfl|rfl|rfl<;>decide)
     clear hk0;go_wp2_with fail;rw[<-HT.o];refine(H4 g (q+1+1) 85 T [C9 (112+k)] _ (HR4.o.dalloc _) aI aN aI aN Hnm.o).mono ?_;rintro e w5 ⟨l2,q2,rfl,⟨hl2,hl2n⟩,hq2,hR5,hg5⟩;have HR5:=Aa hR5;have hg5l:=hR5.lt;have Hg5:=Aa (Ad Hg4.o (Ad (World.grownBy_alloc w4 _ (some g)) hg5));have Hl2:=Aa hl2;clear hR5 hg5 hl2;go_wp2_with fail;go_roundw
     case rel=>exact⟨l++l2,T,k+1,q2,by simp,by first|rfl|rw[HT.o],by go_num,by omega,by omega,by rw[ai];omega,by rw[ai];omega,HL.o.appF Hl2.o,(fun h=>by omega),by omega,hg5l,HR5.o,Hg5.o⟩
     case measure=>simp[intOf];omega
    have hki:(0:Int)<(k:Int):=aI;have hcv:=fun W=>Kx W w4 1 (C9 (112+k));rw[Dd aI]at hcv;have hu:IntKind.u8.wrap (112+(k:Int))=((112+k:Nat):Int):=hD
    have Hnm:=Aa (show ([C9 (112+k)]:List UInt8).all K0=true by
     have hk4:k=0\/k=1\/k=2\/k=3:=aI;rcases hk4 with rfl|rfl|rfl|rfl<;>decide)
    have HF2:=Aa hF.o.comma;clear hk0;go_wp2_with fail;rw[<-HT.o];refine(H4 g (q+1+1) 85 T [C9 (112+k)] _ (HR4.o.dalloc _) aI aN aI aN Hnm.o).mono ?_;rintro e w5 ⟨l2,q2,rfl,⟨hl2,hl2n⟩,hq2,hR5,hg5⟩;have HR5:=Aa hR5;have hg5l:=hR5.lt;have Hg5:=Aa (Ad Hg4.o (Ad (World.grownBy_alloc w4 _ (some g)) hg5));have Hl2:=Aa hl2;clear hR5 hg5 hl2;go_wp2_with fail;go_roundw
    case rel=>exact⟨(l++[44])++l2,T,k+1,q2,by simp,by first|rfl|rw[HT.o],by go_num,by omega,by omega,by simp only[ai,List.length_cons,List.length_nil];omega,by simp only[ai,List.length_cons,List.length_nil];omega,HF2.o.appF Hl2.o,(fun h=>by omega),by omega,hg5l,HR5.o,Hg5.o⟩
    case measure=>simp[intOf];omega
   ·exact j0
 go_wp2_with fail;go_loopw [7,8,10] (fun s t k wr=>∃(l:List UInt8) (tg k' q:Nat),s=l/\t=(tg:Int)/\k=(k':Int)/\k'<=(1+x)/\tg<=3*k'/\l.length<=3+21*k'/\1<=l.length/\Hid (Ko l)/\Hid (k'=0->Fj l)/\q<=(p+1)+11*k'/\g<wr.heap.size/\Hid (Et wr g q)/\Hid (w.grownBy wr (some g))) (fun _ _ k _=>(1+x) - (intOf k).toNat)
 case atStart=>exact⟨[69,nc,61],0,0,(p+1),by simp,rfl,rfl,ah _,Ao _,by simp,by simp,Hh.o.toF,fun _=>Hh.o,by omega,HR1.o.lt,HR1.o,Hg1.o⟩
 case round=>
  obtain⟨l,tg,k,q,rfl,rfl,rfl,hk,htg,hll,hl1,hF,hL,hq,hgw,hR,hg⟩:=hrel;by_cases hlt:k<(1+x)
  ·have k2:(k:Int)<1+(x:Int):=aI;have k3:k<=3:=aI;go_wp2_with fail;refine(Bj g q 3 _ hR.o aI aI aI).mono ?_;rintro e w3 ⟨a,rfl,ha1,_,hR3,hg3⟩;have ha:a<=2:=aI;have HR3:=Aa hR3;have Hg3:=Aa (Ad hg.o hg3);clear hR3 hg3 ha1;go_wp2_with fail;refine(Bj g (q+1) 2 _ HR3.o aI aI aI).mono ?_;rintro e w4 ⟨b,rfl,hb1,_,hR4,hg4⟩;obtain⟨T,hT,hT2⟩:∃T:Nat,(T:Int)=(tg:Int)+1+(a:Int)*(b:Int)/\T<=3*(k+1):=by
    have hb:b=0\/b=1:=aI;rcases hb with rfl|rfl
    ·exact kK
    exact kT
   have hab:(a:Int)*(b:Int)<=2:=by
    have hb:b=0\/b=1:=aI;rcases hb with rfl|rfl
    ·simp
    simp;omega
   have hab0:0<=(a:Int)*(b:Int):=Int.mul_nonneg aI aI;have HR4:=Aa hR4;have Hg4:=Aa (Ad Hg3.o hg4);have HT:=Aa hT;have hg4l:=hR4.lt;clear hR4 hg4 HR3 Hg3 hb1 hT;by_cases hk0:k=0
   ·have HL:=Aa (hL.o hk0);have hki:¬(0:Int)<(k:Int):=aI;have hcv:=fun W=>Kx W w4 1 (C9 (112+k));rw[Dd aI]at hcv;have hu:IntKind.u8.wrap (112+(k:Int))=((112+k:Nat):Int):=hD
    have Hnm:=Aa (show ([C9 (112+k)]:List UInt8).all K0=true by
     have hk4:k=0\/k=1\/k=2\/k=3:=aI;rcases hk4 with rfl|rfl|rfl|rfl<;>decide)
    clear hk0;go_wp2_with fail;rw[<-HT.o];refine(H4 g (q+1+1) 69 T [C9 (112+k)] _ (HR4.o.dalloc _) aI aN aI aN Hnm.o).mono ?_;rintro e w5 ⟨l2,q2,rfl,⟨hl2,hl2n⟩,hq2,hR5,hg5⟩;have HR5:=Aa hR5;have hg5l:=hR5.lt;have Hg5:=Aa (Ad Hg4.o (Ad (World.grownBy_alloc w4 _ (some g)) hg5));have Hl2:=Aa hl2;clear hR5 hg5 hl2;go_wp2_with fail;go_roundw
    case rel=>exact⟨l++l2,T,k+1,q2,by simp,by first|rfl|rw[HT.o],by go_num,by omega,by omega,by rw[ai];omega,by rw[ai];omega,HL.o.appF Hl2.o,(fun h=>by omega),by omega,hg5l,HR5.o,Hg5.o⟩
    case measure=>simp[intOf];omega
   have hki:(0:Int)<(k:Int):=aI;have hcv:=fun W=>Kx W w4 1 (C9 (112+k));rw[Dd aI]at hcv;have hu:IntKind.u8.wrap (112+(k:Int))=((112+k:Nat):Int):=hD
   have Hnm:=Aa (show ([C9 (112+k)]:List UInt8).all K0=true by
    have hk4:k=0\/k=1\/k=2\/k=3:=aI;rcases hk4 with rfl|rfl|rfl|rfl<;>decide)
   have HF2:=Aa hF.o.comma;clear hk0;go_wp2_with fail;rw[<-HT.o];refine(H4 g (q+1+1) 69 T [C9 (112+k)] _ (HR4.o.dalloc _) aI aN aI aN Hnm.o).mono ?_;rintro e w5 ⟨l2,q2,rfl,⟨hl2,hl2n⟩,hq2,hR5,hg5⟩;have HR5:=Aa hR5;have hg5l:=hR5.lt;have Hg5:=Aa (Ad Hg4.o (Ad (World.grownBy_alloc w4 _ (some g)) hg5));have Hl2:=Aa hl2;clear hR5 hg5 hl2;go_wp2_with fail;go_roundw
   case rel=>exact⟨(l++[44])++l2,T,k+1,q2,by simp,by first|rfl|rw[HT.o],by go_num,by omega,by omega,by simp only[ai,List.length_cons,List.length_nil];omega,by simp only[ai,List.length_cons,List.length_nil];omega,HF2.o.appF Hl2.o,(fun h=>by omega),by omega,hg5l,HR5.o,Hg5.o⟩
   case measure=>simp[intOf];omega
  ·exact j0
theorem Z5(s:List UInt8)(k:Nat)(hk:k<=6)(h:(s.take k).all Bm=true):Gr (s.take k)<=999999:=by
 exact kU
def D9(s:List UInt8)(top:Nat):Bool:=match Cw s with|some m=>decide (m<=top)|none=>false
theorem N5{s:List UInt8}{top:Nat}(h:Cw s=none):D9 s top=false:=by unfold D9;rw[h]
theorem Nv{s:List UInt8}{top n:Nat}(h:Cw s=some n):D9 s top=decide (n<=top):=by unfold D9;rw[h]
def Qhl(s:List UInt8)(top:Nat)(w:World)(e:Ending)(w':World):Prop:=
 ∃n:Nat,n<=999999/\e=.returned (.tuple #[.int .i64 n,.bool (D9 s top)])/\(∀m,Cw s=some m->m=n)/\Below w w w'
theorem Dx(s:List UInt8)(m:Nat)(w:World)(hs:s.length<=4000000)(hm:m<=999999):
  Calls prog 81 #[s,.int .i64 m] w (Qhl s m w):=by
 go_enter func81,ntmps81;go_wp2_with fail;go_loop [6,7] (fun x i=>∃k:Nat,i=.int .i64 k/\k<=s.length/\k<=6/\Hid ((s.take k).all Bm=true)/\Gr (s.take k)<=999999/\x=.int .i64 ((Gr (s.take k):Nat):Int)) (fun _ i=>s.length - (intOf i).toNat)
 case atStart=>exact⟨0,rfl,ah _,by omega,by simp[Hid],by simp[Gr],by simp[Gr]⟩
 case round=>
  obtain⟨k,rfl,hk,hk6,hdig,hv,rfl⟩:=hrel;by_cases hlt:k<s.length
  ·have hc:=(s[k]).toNat_lt;have Hts:=Aa (Ch s k hlt);have Hmem:=Aa (af hlt);by_cases hd:Bm s[k]=true
   ·have hd2:=Do.1 hd;obtain⟨d1,d2⟩:=hd2;by_cases h5:k<=5
    ·have hdig2:(s.take (k+1)).all Bm=true:=by
      rw[Hts.o,List.all_append,hdig.o];simp[hd]
     have hv2:=Z5 s (k+1) aI hdig2;have Hdig2:=Aa hdig2;have Hv:=Aa (show Gr (s.take (k+1))=10*Gr (s.take k)+((s[k]).toNat - 48)by rw[Hts.o,Mh]);clear hd hdig2;go_wp2_with fail;go_round
     case rel=>exact⟨k+1,by go_num,by omega,by omega,Hdig2.o,hv2,Qk2 (by rw[Hv.o];omega)⟩
     case measure=>simp[intOf];omega
    have h5':5<k:=aI;have hno:Cw s=none:=by
     unfold Cw;rw[if_neg];rintro⟨_,h,_⟩;omega
    have Hn:=Aa (N5 (top:=m) hno);have Hno:=Aa hno;clear hd hno h5;go_wp2_with fail;go_ret2;exact kV
   have hno:Cw s=none:=by
    unfold Cw;rw[if_neg];rintro⟨_,_,h,_⟩;exact hd (List.all_eq_true.1 h _ Hmem.o)
   have Hn:=Aa (N5 (top:=m) hno);have Hno:=Aa hno;have h2:(s[k]).toNat<48\/(48<=(s[k]).toNat/\57<(s[k]).toNat):=by
    rcases aH (s[k]).toNat 48 with h|h
    ·exact .inl h
    rcases aH 57 (s[k]).toNat with h'|h'
    ·exact .inr ⟨h,h'⟩
    exact absurd (Do.2 ⟨h,h'⟩) hd
   clear hd hno;rcases h2 with h2|⟨h2,h4⟩
   ·go_wp2_with fail;go_ret2;exact kV
   go_wp2_with fail;go_ret2;exact kV
  ·have e:s.take k=s:=av aI;rw[e]at hv ⊢;have hcase:(Cw s=some (Gr s)/\s=Bb (Gr s))\/(Cw s=none/\s≠Bb (Gr s)):=by
    by_cases h:s=Bb (Gr s)
    ·exact .inl ⟨Cj.2 ⟨hv,h⟩,h⟩
    refine .inr ⟨?_,h⟩;cases hd:Cw s with
    |none=>rfl
    |some n=>
     obtain⟨_,h2⟩:=Cj.1 hd;exact absurd (by rw[h2,Rh]) h
   clear hdig e;generalize Gr s=v at hv hcase;have hdl:=Db 5 v gG;rcases hcase with⟨h1,h2⟩|⟨h1,h2⟩
   ·have Hn:=Aa (Nv (top:=m) h1);have Hd:=Aa h1;have tq:(s == Bb v)=true:=fk;clear h1 h2;by_cases hvm:v<=m
    ·go_wp2_with fail;refine(Gf v v _ (Ao _) aI).mono ?_;rintro e w1 ⟨rfl,hb⟩;have Hb:=Aa hb;clear hb;go_wp2_with fail;go_ret2;exact⟨v,hv,by rw[Hn.o];exact Qkv rfl (C0 (by simp[hvm])),(fun m h=>by rw[Hd.o]at h;injection h with h;exact h.symm),Hb.o⟩
    have hvm':m<v:=aI;go_wp2_with fail;refine(Gf v v _ (Ao _) aI).mono ?_;rintro e w1 ⟨rfl,hb⟩;have Hb:=Aa hb;clear hb;go_wp2_with fail;go_ret2;exact⟨v,hv,by rw[Hn.o];exact Qkv rfl (C0 aO),(fun m h=>by rw[Hd.o]at h;injection h with h;exact h.symm),Hb.o⟩
   have Hn:=Aa (N5 (top:=m) h1);have Hd:=Aa h1;have tq:(s == Bb v)=false:=fk;clear h1 h2;go_wp2_with fail;refine(Gf v v _ (Ao _) aI).mono ?_;rintro e w1 ⟨rfl,hb⟩;have Hb:=Aa hb;clear hb;go_wp2_with fail;go_ret2;exact⟨v,hv,by rw[Hn.o];rfl,(fun m h=>by rw[Hd.o]at h;cases h),Hb.o⟩
def Gl(s:List UInt8):Bool:=decide (2<=s.length) && decide (s.head?=some 39) && decide (s.getLast?=some 39) && Dl (s.drop 1).dropLast
theorem Ze(s:List UInt8)(w:World)(hs:s.length<=4000000):
  Calls prog 133 #[s] w fun e w'=>e=.returned (.bool (Gl s))/\w=w':=by
 have hf:Gl s=(decide (2<=s.length) && decide (s.head?=some 39) && decide (s.getLast?=some 39) && Dl (s.drop 1).dropLast):=rfl;rcases aH s.length 2 with h2|h2
 ·have e0:decide (2<=s.length)=false:=aO;have Hf:=Aa (show Gl s=false by rw[hf,e0];simp);have t0:decide ((s.length:Int)<2)=true:=aO;clear hf e0;go_enter func133,ntmps133;go_wp2_with fail;exact kO
 have t0:decide ((s.length:Int)<2)=false:=aO;rcases aH 14 s.length with h14|h14
 ·have Hf:=Aa (show Gl s=false by
   have:Dl (s.drop 1).dropLast=false:=by
    unfold Dl;have e1:decide ((s.drop 1).dropLast.length<=12)=false:=aO;rw[e1];rfl
   rw[hf,this];simp)
  have t1:decide (14<(s.length:Int))=true:=aO;clear hf;go_enter func133,ntmps133;go_wp2_with fail;exact kO
 obtain⟨c,u,d,rfl⟩:∃c u d,s=c::(u++[d]):=by
  cases s with
  |nil=>simp at h2
  |cons c t=>
   rcases Fi t with rfl|⟨u,d,rfl⟩
   ·simp at h2
   exact⟨c,u,d,rfl⟩
 have hl:(c::(u++[d])).getLast?=some d:=by
  exact kP
 have hu:((c::(u++[d])).drop 1).dropLast=u:=aN;have e2:decide (2<=(c::(u++[d])).length)=true:=aN;rw[hl,hu,e2]at hf;simp only[List.head?_cons,ak,Bool.true_and]at hf;have Hf:=Aa hf;have hc:=c.toNat_lt;have hd:=d.toNat_lt;have hgd:∀h,(c::(u++[d]))[u.length+1]'h=d:=by intro h;simp
 have hul:u.length<=12:=by simp at h14;omega
 have Hfit:=Aa (show Dl u=u.all Cn by simp[Dl,hul]);clear hf hl hu h2 hs h14 t0 e2;by_cases hc39:c=39
 ·have t1:((c.toNat:Int) != 39)=false:=by have:=Bl hc39;simpa using this
  have Hc:=Aa (show decide (c=39)=true by simpa using hc39);clear hc39;by_cases hd39:d=39
  ·have t2:((d.toNat:Int) != 39)=false:=by have:=Bl hd39;simpa using this
   have Hd:=Aa (show decide (d=39)=true by simpa using hd39);clear hd39;go_enter func133,ntmps133;go_wp2_with fail;go_loop [3] (fun i=>∃k:Nat,i=.int .i64 ((k:Int)+1)/\k<=u.length/\Hid ((u.take k).all Cn=true)) (fun i=>u.length+1 - (intOf i).toNat)
   case atStart=>exact⟨0,rfl,ah _,by simp[Hid]⟩
   case round=>
    obtain⟨k,rfl,hk,hin⟩:=hrel;by_cases hlt:k<u.length
    ·have hg:∀h,(c::(u++[d]))[k+1]'h=u[k]:=by intro h;simp[List.getElem_append_left hlt]
     have Hts:=Aa (Ch u k hlt);have Hmem:=Aa (af hlt);have hx:=(u[k]).toNat_lt;generalize u[k]=x at hg Hts Hmem hx;by_cases ht:Cn x=true
     ·have Hin:=Aa (show (u.take (k+1)).all Cn=true by rw[Hts.o,List.all_append,hin.o];simp[ht]);have h3:x=32\/(x.toNat≠32/\48<=x.toNat/\x.toNat<=57)\/(57<x.toNat/\97<=x.toNat/\x.toNat<=122):=by
       unfold Cn at ht;simp only[Bool.or_eq_true]at ht;rcases ht with(h|h)|h
       ·have:=Pc.1 h;exact .inr (.inr ⟨by omega,this⟩)
       ·have:=Do.1 h;exact .inr (.inl ⟨by omega,this⟩)
       exact .inl aQ
      clear ht;rcases h3 with h3|⟨h3,h4,h5⟩|⟨h3,h4,h5⟩
      ·have t3:((x.toNat:Int) != 32)=false:=by have:=Bl h3;simpa using this
       clear h3;go_wp2_with fail;go_round
       case rel=>exact⟨k+1,by go_num,by omega,Hin.o⟩
       case measure=>simp[intOf];omega
      ·have t3:((x.toNat:Int) != 32)=true:=fc;go_wp2_with fail;go_round
       case rel=>exact⟨k+1,by go_num,by omega,Hin.o⟩
       case measure=>simp[intOf];omega
      have t3:((x.toNat:Int) != 32)=true:=fc;go_wp2_with fail;go_round
      case rel=>exact⟨k+1,by go_num,by omega,Hin.o⟩
      case measure=>simp[intOf];omega
     have Hno:=Aa (show u.all Cn=false by
      cases h:u.all Cn with
      |false=>rfl
      |true=>exact absurd (List.all_eq_true.1 h _ Hmem.o) ht)
     have h32:x≠32:=by rintro rfl;exact ht rfl
     have t3:((x.toNat:Int) != 32)=true:=by have:=Ap h32;simpa using this
     have h3:x.toNat<48\/(57<x.toNat/\x.toNat<97)\/122<x.toNat:=by
      have a:¬J5 x=true:=fun h=>ht (by simp[Cn,h]);have b:¬Bm x=true:=fun h=>ht (by simp[Cn,h]);rw[Pc]at a;rw[Do]at b;omega
     clear ht h32;rcases h3 with h3|⟨h3,h4⟩|h3;all_goals
      go_wp2_with fail;go_ret;exact⟨Ej (C0 (by rw[Hf.o,Hc.o,Hd.o,Hfit.o,Hno.o];rfl)),rfl⟩
    ·have Hall:=Aa (show u.all Cn=true by
      have:=hin.o;rwa [av aI]at this)
     have hk2:k=u.length:=aI;subst hk2;go_wp2_with fail;go_ret;exact⟨Ej (C0 (by rw[Hf.o,Hc.o,Hd.o,Hfit.o,Hall.o];rfl)),rfl⟩
  have t2:((d.toNat:Int) != 39)=true:=by have:=Ap hd39;simpa using this
  have Hd:=Aa (show decide (d=39)=false by simpa using hd39);clear hd39;go_enter func133,ntmps133;go_wp2_with fail;go_ret;exact⟨Ej (C0 (by rw[Hf.o,Hd.o];simp)),rfl⟩
 have t1:((c.toNat:Int) != 39)=true:=by have:=Ap hc39;simpa using this
 have Hc:=Aa (show decide (c=39)=false by simpa using hc39);clear hc39;go_enter func133,ntmps133;go_wp2_with fail;go_ret;exact⟨Ej (C0 (by rw[Hf.o,Hc.o];simp)),rfl⟩
structure Ty where
 sort:UInt8
 name:List UInt8
 fields:List Fd
deriving DecidableEq
def G6(fs:List Fd)(f:Fd):Bool:=fs.all fun g=>decide (g.name≠f.name) && decide (g.tag<f.tag)
def Fz(st:UInt8):List (List UInt8)->List Fd->Option (List Fd)
 |[],acc=>some acc
 |p::ps,acc=>match Jo st p with
  |none=>none
  |some f=>if acc.length=8\/G6 acc f=false then none else Fz st ps (acc++[f])
def D2(st:UInt8):List (List UInt8)->List Fd->Option (List Fd)
 |[],acc=>some acc
 |p::ps,acc=>match Ca st p with
  |none=>none
  |some f=>if G6 acc f=false then none else D2 st ps (acc++[f])
def Fds(st:UInt8)(fs:List Fd):Prop:=(∀f∈fs,S6 st f)/\fs.Pairwise fun g f=>g.name≠f.name/\g.tag<f.tag
theorem Mw{fs:List Fd}{f:Fd}:G6 fs f=true↔∀g∈fs,g.name≠f.name/\g.tag<f.tag:=by simp[G6]
theorem Qcy{st:UInt8}{fs:List Fd}{f:Fd}:Fds st (fs++[f])↔Fds st fs/\S6 st f/\G6 fs f=true:=by
 unfold Fds;rw[Mw,List.pairwise_append];constructor
 ·rintro⟨h1,h2,_,h3⟩;exact⟨⟨fun g hg=>h1 g (by simp[hg]),h2⟩,h1 f aN,fun g hg=>h3 g hg f aN⟩
 rintro⟨⟨h1,h2⟩,h3,h4⟩;refine⟨fun g hg=>?_,h2,by simp,fun g hg f' hf'=>?_⟩
 ·rcases ag.1 hg with hg|hg
  ·exact h1 g hg
  simp at hg;subst hg;exact h3
 simp at hf';subst hf';exact h4 g hg
theorem Pk(st:UInt8):∀(ps:List (List UInt8)) (acc r:List Fd),Fds st acc->(D2 st ps acc=some r↔Fds st r/\∃gs,r=acc++gs/\gs.map (Kn st)=ps)
 |[],acc,r,ha=>by
  simp only[D2,ak];constructor
  ·rintro rfl;exact⟨ha,[],by simp,rfl⟩
  rintro⟨_,gs,e,h⟩;have:gs=[]:=aQ;subst this;simpa using e.symm
 |p::ps,acc,r,ha=>by
  simp only[D2];cases hf:Ca st p with
  |none=>
   simp only[reduceCtorEq,false_iff];rintro⟨hr,gs,rfl,h⟩;cases gs with
   |nil=>simp at h
   |cons g gs=>
    simp at h;have:=Gs.2 ⟨hr.1 g aN,h.1⟩;rw[this]at hf;cases hf
  |some f=>
   obtain⟨ok,eb⟩:=Gs.1 hf;simp only;by_cases hfit:G6 acc f=false
   ·rw[if_pos hfit];simp only[reduceCtorEq,false_iff];rintro⟨hr,gs,rfl,h⟩;cases gs with
    |nil=>simp at h
    |cons g gs=>
     simp at h;have hg:g=f:=Qfu (hr.1 g aN) ok (h.1.trans eb.symm);subst hg;have h2:Fds st (acc++[g]++gs):=eC;have h3:Fds st (acc++[g]):=⟨fun x hx=>h2.1 x (by simp at hx ⊢;rcases hx with hx|hx<;>simp[hx]),(List.pairwise_append.1 h2.2).1⟩
     rw[(Qcy.1 h3).2.2]at hfit;cases hfit
   rw[if_neg hfit];have hfit':G6 acc f=true:=by simpa using hfit
   rw[Pk st ps (acc++[f]) r (Qcy.2 ⟨ha,ok,hfit'⟩)];constructor
   ·rintro⟨hr,gs,rfl,h⟩;exact⟨hr,f::gs,by simp,by simp[eb,h]⟩
   rintro⟨hr,gs,rfl,h⟩;cases gs with
   |nil=>simp at h
   |cons g gs=>
    simp at h;have hg:g=f:=Qfu (hr.1 g aN) ok (h.1.trans eb.symm);subst hg;exact⟨hr,gs,by simp,h.2⟩
theorem Sc(st:UInt8):∀(ps:List (List UInt8)) (acc:List Fd),acc.length<=8->Fz st ps acc=(match D2 st ps acc with|some r=>if r.length<=8 then some r else none|none=>none)
 |[],acc,h=>by simp[Fz,D2,h]
 |p::ps,acc,h=>by
  simp only[Fz,D2,Qhv];cases hf:Ca st p with
  |none=>rfl
  |some f=>
   simp only;by_cases hfit:G6 acc f=false
   ·rw[if_pos (.inr hfit),if_pos hfit]
   rw[if_neg hfit];by_cases h8:acc.length=8
   ·rw[if_pos (.inl h8)];have key:∀(ps:List (List UInt8)) (a r:List Fd),D2 st ps a=some r->a.length<=r.length:=by
     intro ps;induction ps with
     |nil=>intro a r h;simp[D2]at h;rw[h];exact Nat.le_refl _
     |cons q qs ih=>
      intro a r h;simp only[D2]at h;split at h
      ·cases h
      split at h
      ·cases h
      have:=ih _ _ h;simp at this;omega
    cases hr:D2 st ps (acc++[f])with
    |none=>rfl
    |some r=>
     have:=key _ _ _ hr;simp at this;simp only;rw[if_neg aI]
   rw[if_neg (by simp[h8,hfit])];exact Sc st ps (acc++[f]) aO
def Ed(c:UInt8):Prop:=c=82\/c=85\/c=69
instance (c:UInt8):Decidable (Ed c):=by unfold Ed;infer_instance
def Ff(t:Ty):Prop:=Ed t.sort/\Be t.name=true/\Fds t.sort t.fields/\t.fields.length<=8/\(t.fields=[]->t.sort=82)
def Xe(t:Ty):List UInt8:=t.sort::(t.name++61::Aw 44 (t.fields.map (Kn t.sort)))
def E9(s:List UInt8):Option Ty:=
 match s with
 |[]=>none
 |c::r=>
  if ¬Ed c\/(Dg 61 r).2.2=false\/Be (Dg 61 r).1=false then none
  else if (Dg 61 r).2.1=[]then(if c=82 then some ⟨c,(Dg 61 r).1,[]⟩else none)
  else match Fz c (Ak 44 (Dg 61 r).2.1) []with
   |some fs=>some ⟨c,(Dg 61 r).1,fs⟩
   |none=>none
theorem Qjh{c:UInt8}{ps:List (List UInt8)}(h:ps≠[])(h1:∀p∈ps,p≠[]):Aw c ps≠[]:=by
 cases ps with
 |nil=>exact absurd rfl h
 |cons p ps=>
  have:=h1 p aN;cases ps with
  |nil=>exact this
  |cons q ps=>rw[Cz c p aN];simp
theorem Qb4(st:UInt8):Fds st []:=⟨by simp,List.Pairwise.nil⟩
theorem S9{st:UInt8}{ps:List (List UInt8)}{r:List Fd}:Fz st ps []=some r↔Fds st r/\r.length<=8/\r.map (Kn st)=ps:=by
 rw[Sc st ps [] aN];constructor
 ·intro h;cases hs:D2 st ps []with
  |none=>rw[hs]at h;cases h
  |some x=>
   rw[hs]at h;simp only at h;split at h
   ·rename_i h8;injection h with h;subst h;obtain⟨h1,gs,e,h2⟩:=(Pk st ps [] x (Qb4 st)).1 hs;simp at e;subst e;exact⟨h1,h8,h2⟩
   cases h
 rintro⟨h1,h2,h3⟩;rw[(Pk st ps [] r (Qb4 st)).2 ⟨h1,r,by simp,h3⟩];simp[h2]
theorem Qhi{c:UInt8}(h:Ed c):c≠61/\c≠10:=by
 rcases h with rfl|rfl|rfl<;>exact⟨by decide,by decide⟩
theorem Gc{s:List UInt8}{t:Ty}:E9 s=some t↔Ff t/\Xe t=s:=by
 obtain⟨st,nm,fs⟩:=t;constructor
 ·intro h;unfold E9 at h;split at h
  ·cases h
  rename_i c r;split at h
  ·cases h
  rename_i hc;have hc1:Ed c:=Decidable.byContradiction fun hh=>hc (.inl hh);have hc2:(Dg 61 r).2.2=true:=by
   cases hb:(Dg 61 r).2.2 with
   |true=>rfl
   |false=>exact absurd (.inr (.inl hb)) hc
  have hc3:Be (Dg 61 r).1=true:=by
   cases hb:Be (Dg 61 r).1 with
   |true=>rfl
   |false=>exact absurd (.inr (.inr hb)) hc
  rcases Fv 61 r with⟨_,e⟩|⟨p,u,er,hp,e⟩
  ·rw[e]at hc2;cases hc2
  rw[e]at h hc3;simp only at h hc3;split at h
  ·rename_i hu;subst hu;split at h
   ·rename_i h82;injection h with h;injection h with e1 e2 e3;subst e1;subst e2;subst e3;exact⟨⟨hc1,hc3,Qb4 _,by simp,fun _=>h82⟩,by rw[er];simp[Xe,Aw]⟩
   cases h
  rename_i hu;cases hf:Fz c (Ak 44 u) []with
  |none=>rw[hf]at h;cases h
  |some x=>
   rw[hf]at h;injection h with h;injection h with e1 e2 e3;subst e1;subst e2;subst e3;obtain⟨f1,f2,f3⟩:=S9.1 hf;obtain⟨s1,_,s3⟩:=Eb.1 f3.symm;exact⟨⟨hc1,hc3,f1,f2,fun hh=>by simp only at hh;subst hh;exact absurd rfl s1⟩,by rw[er];simp only[Xe];rw[s3]⟩
 rintro⟨⟨h1,h2,h3,h4,h5⟩,rfl⟩;simp only at h1 h2 h3 h4 h5;have hno:61∉nm:=(Er (Ea h2)).2.2.2;unfold E9 Xe;simp only;rw[Ez hno];simp only;rw[if_neg (by simp[h1,h2])];by_cases hf:fs=[]
 ·subst hf;rw[h5 rfl];simp[Aw]
 have hn:Aw 44 (fs.map (Kn st))≠[]:=Qjh (by simpa using hf) (by
  intro p hp;obtain⟨f,hf',rfl⟩:=ay.1 hp;exact(Vn (h3.1 f hf')).2.2)
 have hs:Ak 44 (Aw 44 (fs.map (Kn st)))=fs.map (Kn st):=Nc 44 _ (by simpa using hf) (by
  intro p hp;obtain⟨f,hf',rfl⟩:=ay.1 hp;exact(Vn (h3.1 f hf')).2.1)
 rw[if_neg hn,hs,S9.2 ⟨h3,h4,rfl⟩]
theorem Qa4{t:Ty}(h:Ff t):10∉Xe t/\Xe t≠[]:=by
 refine⟨?_,by unfold Xe;simp⟩;obtain⟨h1,h2,h3,_,_⟩:=h;unfold Xe;simp only[ag,aB,not_or];refine⟨fun e=>(Qhi h1).2 e.symm,(Er (Ea h2)).1,by decide,?_⟩;have key:∀ps:List (List UInt8),(∀p∈ps,(10:UInt8)∉p)->(10:UInt8)∉Aw 44 ps:=by
  intro ps;induction ps with
  |nil=>intro _;simp[Aw]
  |cons p ps ih=>
   intro hp;cases ps with
   |nil=>exact hp p aN
   |cons q ps=>
    rw[Cz 44 p aN];simp only[ag,aB,not_or];refine⟨hp p aN,by decide,ih (fun x hx=>hp x (by simp[hx]))⟩
 apply key;intro p hp;obtain⟨f,hf',rfl⟩:=ay.1 hp;exact(Vn (h3.1 f hf')).1
theorem Qbj{t u:Ty}(ht:Ff t)(hu:Ff u)(h:Xe t=Xe u):t=u:=by
 have h1:=Gc.2 ⟨ht,rfl⟩;have h2:=Gc.2 ⟨hu,h.symm⟩;rw[h1]at h2;injection h2
def scB(S:List Ty):List UInt8:=S.flatMap fun t=>Xe t++[10]
def Nj(S:List Ty):Prop:=(∀t∈S,Ff t)/\S.length<=8/\S.Pairwise fun t u=>t.name≠u.name
def Gj:Nat->List UInt8->List Ty->Option (List Ty)
 |0,_,_=>none
 |n+1,s,acc=>
  if s=[]then some acc
  else if (Dg 10 s).2.2=false\/acc.length=8 then none
  else match E9 (Dg 10 s).1 with
   |none=>none
   |some t=>if acc.any (fun u=>decide (u.name=t.name))=true then none else Gj n (Dg 10 s).2.1 (acc++[t])
theorem Qbk{S:List Ty}{t:Ty}:Nj (S++[t])↔Nj S/\Ff t/\S.length<8/\S.any (fun u=>decide (u.name=t.name))=false:=by
 unfold Nj;rw[List.pairwise_append];constructor
 ·rintro⟨h1,h2,h3,_,h4⟩;simp at h2;refine⟨⟨fun u hu=>h1 u (by simp[hu]),by omega,h3⟩,h1 t aN,by omega,?_⟩;simp;intro u hu;exact h4 u hu t aN
 rintro⟨⟨h1,h2,h3⟩,h4,h5,h6⟩;simp at h6;refine⟨fun u hu=>?_,by simp;omega,h3,by simp,fun u hu v hv=>?_⟩
 ·rcases ag.1 hu with hu|hu
  ·exact h1 u hu
  simp at hu;subst hu;exact h4
 simp at hv;subst hv;exact h6 u hu
theorem P9(t:Ty)(S:List Ty):scB (t::S)=Xe t++10::scB S:=by simp[scB]
theorem Vz:∀(n:Nat) (s:List UInt8) (acc r:List Ty),s.length<n->Nj acc->(Gj n s acc=some r↔Nj r/\∃U,r=acc++U/\scB U=s)
 |0,s,acc,r,h,_=>absurd h (Nat.not_lt_zero _)
 |n+1,s,acc,r,h,ha=>by
  simp only[Gj];by_cases hs:s=[]
  ·subst hs;rw[if_pos rfl];constructor
   ·intro hh;injection hh with hh;subst hh;exact⟨ha,[],by simp,rfl⟩
   rintro⟨_,U,rfl,e⟩;cases U with
   |nil=>simp
   |cons t U=>rw[P9]at e;simp at e
  rw[if_neg hs];rcases Fv 10 s with⟨hn,e⟩|⟨p,u,es,hp,e⟩
  ·rw[e,if_pos (.inl rfl)];simp only[reduceCtorEq,false_iff];rintro⟨_,U,rfl,eU⟩;cases U with
   |nil=>exact hs eU.symm
   |cons t U=>rw[P9]at eU;rw[<-eU]at hn;simp at hn
  rw[e];simp only;by_cases h8:acc.length=8
  ·rw[if_pos (.inr h8)];simp only[reduceCtorEq,false_iff];rintro⟨hr,U,rfl,eU⟩;cases U with
   |nil=>exact hs eU.symm
   |cons t U=>have:=hr.2.1;simp at this;omega
  rw[if_neg (by simp[h8])];have hsplit:∀t U,Ff t->scB (t::U)=s->Xe t=p/\scB U=u:=by
   intro t U ht eU;rw[P9,es]at eU;have h1:=Ez (s:=scB U) (Qa4 ht).1;rw[eU,Ez hp]at h1;injection h1 with e1 e2;injection e2 with e2 _;exact⟨e1.symm,e2.symm⟩
  cases ht:E9 p with
  |none=>
   simp only[reduceCtorEq,false_iff];rintro⟨hr,U,rfl,eU⟩;cases U with
   |nil=>exact hs eU.symm
   |cons t U=>
    have ok:Ff t:=hr.1 t aN;rw[Gc.2 ⟨ok,(hsplit t U ok eU).1⟩]at ht;cases ht
  |some t=>
   obtain⟨ok,eb⟩:=Gc.1 ht;simp only;by_cases hd:acc.any (fun u=>decide (u.name=t.name))=true
   ·rw[if_pos hd];simp only[reduceCtorEq,false_iff];rintro⟨hr,U,rfl,eU⟩;cases U with
    |nil=>exact hs eU.symm
    |cons t' U=>
     have ok':Ff t':=hr.1 t' aN;have ett:t'=t:=Qbj ok' ok ((hsplit t' U ok' eU).1.trans eb.symm);subst ett;simp at hd;obtain⟨v,hv,hvn⟩:=hd;exact(List.pairwise_append.1 hr.2.2).2.2 v hv t' aN hvn
   rw[if_neg hd];have hlen:u.length<n:=by rw[es]at h;simp at h;omega
   rw[Vz n u (acc++[t]) r hlen (Qbk.2 ⟨ha,ok,by have:=ha.2.1;omega,by simpa using hd⟩)];constructor
   ·rintro⟨hr,U,rfl,eU⟩;exact⟨hr,t::U,by simp,by rw[P9,eb,eU,es]⟩
   rintro⟨hr,U,rfl,eU⟩;cases U with
   |nil=>exact absurd eU.symm hs
   |cons t' U=>
    have ok':Ff t':=hr.1 t' aN;obtain⟨e1,e2⟩:=hsplit t' U ok' eU;have ett:t'=t:=Qbj ok' ok (e1.trans eb.symm);subst ett;exact⟨hr,U,by simp,e2⟩
def Dk(s:List UInt8):Option Ty:=
 match Dg 61 s with
 |(c::nm,u,true)=>
  if ¬Be nm=true\/¬Ed c then none
  else if u=[]then(if c=82 then some ⟨c,nm,[]⟩else none)
  else match D2 c (Ak 44 u) []with
   |some r=>if r.length<=8 then some ⟨c,nm,r⟩else none
   |none=>none
 |_=>none
theorem Qd1(s:List UInt8):Dk s=E9 s:=by
 cases s with
 |nil=>rfl
 |cons c r=>
  unfold Dk E9;by_cases hc:c=61
  ·subst hc;have e:Dg 61 (61::r)=([],r,true):=Ez (p:=[]) aN;rw[e];simp only;rw[if_pos (.inl aL)]
  rcases Fv 61 r with⟨hn,e⟩|⟨p,u,er,hp,e⟩
  ·have e2:Dg 61 (c::r)=(c::r,[],false):=Ri (by simp;exact⟨fun h=>hc h.symm,hn⟩);rw[e2];simp[e]
  have e2:Dg 61 (c::r)=(c::p,u,true):=by
   rw[er];exact Ez (p:=c::p) (by simp;exact⟨fun h=>hc h.symm,hp⟩)
  rw[e2];simp only[e];by_cases h1:Be p=true
  ·by_cases h2:Ed c
   ·by_cases hu:u=[]
    ·subst hu;simp[h1,h2]
    have hx:∀(a b:Option Ty),(if ¬Be p=true\/¬Ed c then a else b)=b:=fun a b=>if_neg (by simp[h1,h2]);have hy:∀(a b:Option Ty),(if ¬Ed c\/true=false\/Be p=false then a else b)=b:=fun a b=>if_neg (by simp[h1,h2]);have hz:∀(a b:Option Ty),(if u=[]then a else b)=b:=fun a b=>if_neg hu;rw[hx,hy,hz,hz,Sc c _ [] aN];cases D2 c (Ak 44 u) []with
    |none=>rfl
    |some r=>simp only;split<;>rfl
   rw[if_pos (.inr h2),if_pos (.inl h2)]
  rw[if_pos (.inl h1),if_pos (.inr (.inr fj))]
def Ga:List (List UInt8)->Option (List Ty)
 |[]=>some []
 |p::ps=>match E9 p with
  |none=>none
  |some t=>match Ga ps with
   |none=>none
   |some ts=>some (t::ts)
theorem P8:∀(ps:List (List UInt8)) (ts:List Ty),Ga ps=some ts↔(∀t∈ts,Ff t)/\ts.map Xe=ps
 |[],ts=>by
  simp only[Ga,ak];constructor
  ·rintro rfl;simp
  rintro⟨_,h⟩;simpa using h.symm
 |p::ps,ts=>by
  simp only[Ga];cases ht:E9 p with
  |none=>
   simp only[reduceCtorEq,false_iff];rintro⟨h,e⟩;cases ts with
   |nil=>simp at e
   |cons t ts=>
    simp at e;rw[Gc.2 ⟨h t aN,e.1⟩]at ht;cases ht
  |some t=>
   obtain⟨ok,eb⟩:=Gc.1 ht;simp only;have ih:=P8 ps;constructor
   ·intro h;cases hr:Ga ps with
    |none=>rw[hr]at h;cases h
    |some us=>
     rw[hr]at h;injection h with h;subst h;obtain⟨i1,i2⟩:=(ih us).1 hr;exact⟨by simpa using⟨ok,i1⟩,by simp[eb,i2]⟩
   rintro⟨h,e⟩;cases ts with
   |nil=>simp at e
   |cons u us=>
    simp at e;have:u=t:=Qbj (h u aN) ok (e.1.trans eb.symm);subst this;rw[(ih us).2 ⟨fun x hx=>h x (by simp[hx]),e.2⟩]
def Ps(s:List UInt8):Option (List Ty):=
 if 9<(Ak 10 s).length\/(Ak 10 s).getLast?≠some []then none else Ga (Ak 10 s).dropLast
theorem Qcn(S:List Ty):Aw 10 (S.map Xe++[[]])=scB S:=by
 induction S with
 |nil=>rfl
 |cons t S ih=>
  rw[az,aw,Cz 10 _ aN,ih,P9]
theorem Qdv{s:List UInt8}{S:List Ty}:Ps s=some S↔(∀t∈S,Ff t)/\S.length<=8/\scB S=s:=by
 unfold Ps;constructor
 ·intro h;split at h
  ·cases h
  rename_i hc;have h9:(Ak 10 s).length<=9:=by
   rcases aH 9 (Ak 10 s).length with hh|hh
   ·exact absurd (.inl hh) hc
   exact hh
  have hl:(Ak 10 s).getLast?=some []:=by
   refine Decidable.byContradiction fun hh=>hc (.inr hh)
  obtain⟨t1,t2⟩:=(P8 _ _).1 h;have e:Ak 10 s=S.map Xe++[[]]:=by
   rcases Fi (Ak 10 s)with hh|⟨t,c,hh⟩
   ·exact absurd hh (Ex 10 s)
   rw[hh]at hl t2 ⊢;simp at hl t2;rw[t2,hl]
  have hs:=P4 10 s;rw[e,Qcn]at hs;rw[e]at h9;simp at h9;exact⟨t1,h9,hs⟩
 rintro⟨h1,h2,rfl⟩;have e:Ak 10 (scB S)=S.map Xe++[[]]:=by
  rw[<-Qcn];refine Nc 10 _ aN ?_;intro p hp;rcases ag.1 hp with hp|hp
  ·obtain⟨t,ht,rfl⟩:=ay.1 hp;exact(Qa4 (h1 t ht)).1
  simp at hp;subst hp;simp
 rw[e,if_neg aO];simp only[List.dropLast_concat];exact(P8 _ _).2 ⟨h1,rfl⟩
def Bp(S:List Ty)(n:List UInt8):Option Ty:=S.find? fun t=>decide (t.name=n)
theorem Cq{S:List Ty}{n:List UInt8}{t:Ty}(h:Bp S n=some t):t∈S/\t.name=n:=by
 have h1:=List.mem_of_find?_eq_some h;have h2:=List.find?_some h;exact⟨h1,by simpa using h2⟩
def B0(S:List Ty)(k:Kd):Prop:=k.base=[64]->(Bp S k.name).isSome=true
instance (S:List Ty) (k:Kd):Decidable (B0 S k):=by unfold B0;infer_instance
def Ha(S:List Ty):Prop:=∀t∈S,t.sort≠69->∀f∈t.fields,B0 S f.kind
instance (S:List Ty):Decidable (Ha S):=by unfold Ha;infer_instance
def Gb(S:List Ty)(t:Ty):Option Ty:=
 if t.sort=85 then(match t.fields with
  |f::_=>if f.kind.signs=[]/\f.kind.base=[64]then Bp S f.kind.name else none
  |[]=>none)else none
def B8(S:List Ty):Nat->Ty->Bool
 |0,_=>false
 |n+1,t=>match Gb S t with
  |none=>true
  |some u=>B8 S n u
theorem Qeu{S:List Ty}{t u:Ty}(h:Gb S t=some u):u∈S:=by
 unfold Gb at h;split at h
 ·split at h
  ·split at h
   ·exact(Cq h).1
   cases h
  cases h
 cases h
theorem M4(S:List Ty):∀(n:Nat) (t:Ty),B8 S n t=true->∀m,n<=m->B8 S m t=true
 |0,t,h,_,_=>by simp[B8]at h
 |n+1,t,h,m,hm=>by
  obtain⟨k,rfl⟩:∃k,m=k+1:=⟨m - 1,by omega⟩
  simp only[B8]at h ⊢;cases hn:Gb S t with
  |none=>rfl
  |some u=>
   rw[hn]at h;exact M4 S n u h k aI
theorem Kw:∀(l S:List Ty),l.Nodup->(∀x∈l,x∈S)->l.length<=S.length
 |[],S,_,_=>ah _
 |x::l,S,hn,hs=>by
  obtain⟨h1,h2⟩:=List.nodup_cons.1 hn;have hx:=hs x aN
  have ih:=Kw l (S.erase x) h2 (fun y hy=>by
   have hne:y≠x:=by rintro rfl;exact h1 hy
   exact(List.mem_erase_of_ne hne).2 (hs y fB))
  have hl:=List.length_erase_of_mem hx;have hp:0<S.length:=List.length_pos_iff.2 (by rintro rfl;cases hx);simp;omega
theorem Yg(S:List Ty):∀(n:Nat) (t:Ty),t∈S->B8 S (n+1) t=true->B8 S n t=false ->
  ∃l:List Ty,l.length=n+1/\(∀u∈l,u∈S)/\l.Nodup/\∀u∈l,B8 S (n+1) u=true
 |0,t,ht,h1,_=>⟨[t],rfl,by simpa using ht,by simp,by simpa using h1⟩
 |n+1,t,ht,h1,h2=>by
  have hn:∃u,Gb S t=some u:=by
   cases hh:Gb S t with
   |none=>simp[B8,hh]at h2
   |some u=>exact⟨u,rfl⟩
  obtain⟨u,hu⟩:=hn;have e1:B8 S (n+1) u=true:=by simp only[B8,hu]at h1;simpa [B8]using h1
  have e2:B8 S n u=false:=by simp only[B8,hu]at h2;exact h2
  obtain⟨l,l1,l2,l3,l4⟩:=Yg S n u (Qeu hu) e1 e2;refine⟨t::l,by simp[l1],?_,List.nodup_cons.2 ⟨fun hm=>?_,l3⟩,?_⟩
  ·intro x hx;rcases aB.1 hx with rfl|hx
   ·exact ht
   exact l2 x hx
  ·rw[l4 t hm]at h2;cases h2
  intro x hx;rcases aB.1 hx with rfl|hx
  ·exact h1
  exact M4 S _ _ (l4 x hx) _ aI
theorem Vs(S:List Ty)(t:Ty)(ht:t∈S)(n:Nat):B8 S n t=true->B8 S S.length t=true:=by
 induction n with
 |zero=>intro h;simp[B8]at h
 |succ n ih=>
  intro h;by_cases h2:B8 S n t=true
  ·exact ih h2
  have h2':B8 S n t=false:=fk;obtain⟨l,l1,l2,l3,_⟩:=Yg S n t ht h h2';have:=Kw l S l3 l2;exact M4 S _ _ h _ aI
theorem Qau(S:List Ty)(t:Ty)(ht:t∈S)(m n:Nat)(hm:S.length<=m)(hn:S.length<=n):B8 S m t=B8 S n t:=by
 cases h1:B8 S m t with
 |true=>exact(M4 S _ _ (Vs S t ht m h1) n hn).symm
 |false=>
  cases h2:B8 S n t with
  |false=>rfl
  |true=>rw[M4 S _ _ (Vs S t ht n h2) m hm]at h1;cases h1
def Je(S:List Ty):Prop:=Nj S/\Ha S/\∀t∈S,B8 S 9 t=true
def Cb(s:List UInt8):Option (List Ty):=
 if 400<s.length then none
 else match Gj (s.length+1) s []with
  |none=>none
  |some S=>if Ha S/\(∀t∈S,B8 S 9 t=true)then some S else none
theorem Qdf:Nj []:=⟨by simp,by simp,List.Pairwise.nil⟩
theorem Vk{s:List UInt8}{S:List Ty}:Gj (s.length+1) s []=some S↔Nj S/\scB S=s:=by
 rw[Vz (s.length+1) s [] S aI Qdf];constructor
 ·rintro⟨h,U,e,h2⟩;simp at e;subst e;exact⟨h,h2⟩
 rintro⟨h,h2⟩;exact⟨h,S,by simp,h2⟩
theorem Ph{s:List UInt8}{S:List Ty}:Cb s=some S↔Je S/\s.length<=400/\scB S=s:=by
 unfold Cb;constructor
 ·intro h;split at h
  ·cases h
  rename_i h4;cases hl:Gj (s.length+1) s []with
  |none=>rw[hl]at h;cases h
  |some T=>
   rw[hl]at h;simp only at h;split at h
   ·rename_i hc;injection h with h;subst h;obtain⟨h1,h2⟩:=Vk.1 hl;exact⟨⟨h1,hc.1,hc.2⟩,by omega,h2⟩
   cases h
 rintro⟨⟨h1,h2,h3⟩,h4,h5⟩;rw[if_neg aI,Vk.2 ⟨h1,h5⟩];simp only;rw[if_pos ⟨h2,h3⟩]
theorem P7{s:List UInt8}{S:List Ty}:Cb s=some S↔s.length<=400/\Ps s=some S/\(S.Pairwise fun t u=>t.name≠u.name)/\Ha S/\∀t∈S,B8 S (S.length+1) t=true:=by
 rw[Ph,Qdv];constructor
 ·rintro⟨⟨⟨h1,h2,h3⟩,h4,h5⟩,h6,h7⟩;exact⟨h6,⟨h1,h2,h7⟩,h3,h4,fun t ht=>by rw[Qau S t ht _ 9 aI aI];exact h5 t ht⟩
 rintro⟨h6,⟨h1,h2,h7⟩,h3,h4,h5⟩;exact⟨⟨⟨h1,h2,h3⟩,h4,fun t ht=>by rw[<-Qau S t ht (S.length+1) 9 aI aI];exact h5 t ht⟩,h6,h7⟩
def Vp(S:List Ty)(n:Nat)(k:Kd):Prop:=k.signs=[]->k.base=[64]->∃t,Bp S k.name=some t/\B8 S n t=true
def Di(S:List Ty):Nat->Kd->List UInt8
 |0,_=>[]
 |n+1,k=>
  if k.signs.head?=some 91 then[91,93]
  else if k.signs.head?=some 63 then[45]
  else if k.base=[110]then[48]
  else if k.base=[116]then[39,39]
  else if k.base=[102]then[110,111]
  else match Bp S k.name with
   |none=>[]
   |some t=>if t.sort=82 then[123,125]else
    match t.fields with
    |[]=>[]
    |f::_=>if t.sort=69 then 35::Bb f.tag else 60::(Bb f.tag++61::(Di S n f.kind++[62]))
theorem Xc{S:List Ty}{n:Nat}{k:Kd}{t:Ty}{f:Fd}{fs:List Fd}(h:Vp S (n+1) k)(h1:k.signs=[])(h2:k.base=[64])(hf:Bp S k.name=some t)(hs:t.sort=85)(hfs:t.fields=f::fs)(hr:B0 S f.kind):Vp S n f.kind:=by
 intro g1 g2;obtain⟨u,hu,he⟩:=h h1 h2;rw[hf]at hu;injection hu with hu;subst hu;have hn:Gb S t=Bp S f.kind.name:=by
  unfold Gb;rw[if_pos hs,hfs];simp only;rw[if_pos ⟨g1,g2⟩]
 have hr':=hr g2;cases hx:Bp S f.kind.name with
 |none=>rw[hx]at hr';cases hr'
 |some v=>
  simp only[B8,hn,hx]at he;exact⟨v,rfl,he⟩
def Vf(S:List Ty)(k:Kd):List UInt8:=Di S 10 k
def Jf(S:List Ty)(f:Fd):List UInt8:=if f.given=[]then Vf S f.kind else f.given
end
theorem Ny{α:Type}{p q:α->Bool}:∀(l:List α) (_:∀x,q x=true->p x=true) {a:α} (_:a∈l) (_:p a=true) (_:q a=false),(l.filter q).length<(l.filter p).length
 |[],_,_,ha,_,_=>by cases ha
 |x::l,h,a,ha,hp,hq=>by
  have hle:∀l:List α,(l.filter q).length<=(l.filter p).length:=by
   intro l;induction l with
   |nil=>exact Ao _
   |cons y l ih=>
    simp only[List.filter_cons];by_cases h1:q y=true
    ·rw[if_pos h1,if_pos (h y h1)];simpa using ih
    rw[if_neg h1];split
    ·simp;omega
    exact ih
  rcases aB.1 ha with rfl|ha
  ·have:=hle l;simp only[List.filter_cons,hp,hq];simp;omega
  have ih:=Ny l h ha hp hq;simp only[List.filter_cons];by_cases h1:q x=true
  ·rw[if_pos h1,if_pos (h x h1)];simpa using ih
  rw[if_neg h1];split
  ·simp;omega
  exact ih
section
variable {P:Program} {ops:Array Oper} {Q:Exit->Act->World->Prop} {md:Region.Mode}
def S7(ops:Array Oper)(listed:Array Bool):Nat:=((List.range ops.size).filter fun i=>!listed.getD i false).length
theorem Qam(hac:∀(i:Nat) (o:Oper),ops[i]?=some o->∀e∈o.after,Region.binds md e=true->e.on<i)(I:(Nat->Bool)->Act->World->Prop)
  (hstep:∀(l:Nat->Bool) a w i o,ops[i]?=some o->l i=false->(∀e∈o.after,Region.binds md e=true->l e.on=true)->I l a w->wpOp P ops Q i (I fun j=>if j=i then true else l j) a w)
  (hdone:∀l a w,(∀i,i<ops.size->l i=true)->I l a w->Q .normal a w):
  ∀(fuel:Nat) (listed:Array Bool) a w,listed.size=ops.size->S7 ops listed<=fuel->I (fun j=>listed.getD j false) a w->wpAny P md ops Q fuel listed a w:=by
 have hall:∀listed:Array Bool,listed.size=ops.size->Region.ready md ops listed=[]->∀i,i<ops.size->listed.getD i false=true:=by
  intro listed hsz hr i;induction i using Nat.strongRecOn with
  |ind i ih=>
   intro hi;cases hb:listed.getD i false with
   |true=>rfl
   |false=>
    have:i∈Region.ready md ops listed:=by
     rw[mem_ready]
     refine ⟨by have h2:i<listed.size:=by omega
                simpa [Array.getD,h2]using hb,ops[i],by simp[hi],fun e he hbd=>?_⟩
     have h1:=hac i ops[i] (by simp[hi]) e he hbd;exact ih e.on h1 aI
    rw[hr]at this;cases this
 intro fuel;induction fuel with
 |zero=>
  intro listed a w hsz hst hI;have hall':∀i,i<ops.size->listed.getD i false=true:=by
   intro i hi;have h0:((List.range ops.size).filter fun i=>!listed.getD i false)=[]:=List.eq_nil_of_length_eq_zero (by unfold S7 at hst;omega);have:=List.filter_eq_nil_iff.1 h0 i (List.mem_range.2 hi);simpa using this
  refine⟨?_,hdone _ a w hall' hI⟩;cases hr:Region.ready md ops listed with
  |nil=>rfl
  |cons j js=>
   have hj:j∈Region.ready md ops listed:=by rw[hr];simp
   obtain⟨h1,o,h2,_⟩:=mem_ready.1 hj;have h3:j<ops.size:=(Array.getElem?_eq_some_iff.1 h2).1;have h4:=hall' j h3;have h5:j<listed.size:=aI;simp[Array.getD,h5]at h1 h4;rw[h1]at h4;cases h4
 |succ fuel ih=>
  intro listed a w hsz hst hI;refine⟨fun hr=>hdone _ a w (hall listed hsz hr) hI,fun i hi=>?_⟩;obtain⟨h1,o,h2,h3⟩:=mem_ready.1 hi;have hlt:i<ops.size:=(Array.getElem?_eq_some_iff.1 h2).1;have hlt2:i<listed.size:=aI;have h1':listed.getD i false=false:=by simpa [Array.getD,hlt2]using h1
  have hset:∀j,(listed.setIfInBounds i true).getD j false=if j=i then true else listed.getD j false:=by
   intro j;by_cases hj:j=i
   ·subst hj;simp[Array.getD,hlt2]
   rw[if_neg hj,getD_set_ne _ (Ne.symm hj)]
  refine wpOp_mono (fun a' w' h=>ih (listed.setIfInBounds i true) a' w' (by simpa using hsz) ?_ ?_) (hstep _ a w i o h2 h1' h3 hI)
  ·have:=Ny (p:=fun i=>!listed.getD i false) (q:=fun j=>!(listed.setIfInBounds i true).getD j false) (List.range ops.size) (fun x hx=>by
    simp only[Bool.not_eq_true']at hx ⊢;rw[hset]at hx;by_cases hxi:x=i
    ·rw[if_pos hxi]at hx;cases hx
    rwa [if_neg hxi]at hx) (List.mem_range.2 hlt) (by simp only[h1',Bool.not_false]) (by simp only[hset,if_true,Bool.not_true])
   unfold S7 at hst ⊢;omega
  have e:(fun j=>(listed.setIfInBounds i true).getD j false)=fun j=>if j=i then true else listed.getD j false:=funext hset
  rw[e];exact h
def Ai(p:Nat->Oper->Prop)(k:Nat)(os:List Oper):Prop:=∀i o,os[i]?=some o->p (k+i) o
theorem Ai.nil{p:Nat->Oper->Prop}{k:Nat}:Ai p k []:=fun i o h=>by simp at h
theorem Ai.cons{p:Nat->Oper->Prop}{k:Nat}{o:Oper}{os:List Oper}(h:p k o)(hs:Ai p (k+1) os):Ai p k (o::os):=fun i o' ho=>by
 cases i with
 |zero=>simp at ho;subst ho;exact h
 |succ i=>simp at ho;have:=hs i o' ho;rwa [Nat.add_assoc,Nat.add_comm 1 i]at this
theorem Z7{id:Nat}(hm:P.follows .mixedOrders=true)(hac:(List.range ops.size).all (fun i=>((ops[i]?).map fun o=>o.after.all fun e=>!Region.binds .any e || decide (e.on<i)).getD true)=true)
  (mk:(Nat->Value)->Act) (u0:Nat->Value) {a:Act} (ha:a=mk u0) {w:World}
  (φ:Nat->Value->World->Prop) (R:(Nat->Bool)->World->Prop) (Rel:World->World->Prop)
  (hput:Ai (fun i o=>∀u v,(mk u).put o.dst v=mk (fun j=>if j=i then v else u j)) 0 ops.toList)
  (hst:∀w w',Rel w w'->∀i v,φ i v w->φ i v w')
  (h0:R (fun _=>false) w.drew)
  (hstep:Ai (fun i o=>∀(l:Nat->Bool) u w,l i=false->(∀e∈o.after,Region.binds .any e=true->l e.on=true/\φ e.on (u e.on) w)->R l w ->
   ∀K:Act->World->Prop,(∀v w' a',φ i v w'->Rel w w'->R (fun j=>if j=i then true else l j) w'->a'=(mk u).put o.dst v->K a' w') ->
    if Region.wanted o (yielded ops (mk u).tmps)=true then Oper.wp P o (mk u) w K Q else K ((mk u).put o.dst undef) w) 0 ops.toList)
  (hdone:∀(l:Nat->Bool) u w,(∀i,i<ops.size->l i=true)->(∀i,i<ops.size->φ i (u i) w)->R l w->Q .normal (mk u) w):(Code.region id ops true).wp P Q a w:=by
 subst ha;have hst':=fun i v w w' h=>hst w w' h i v;have hac':∀(i:Nat) (o:Oper),ops[i]?=some o->∀e∈o.after,Region.binds .any e=true->e.on<i:=by
  intro i o ho e he hbd;have hlt:i<ops.size:=(Array.getElem?_eq_some_iff.1 ho).1;have h:=List.all_eq_true.1 hac i (List.mem_range.2 hlt);rw[ho]at h;have:=Array.all_eq_true_iff_forall_mem.1 h e he;simpa [hbd]using this
 refine wp_region_any hm ?_
 refine Qam hac' (fun l a w=>∃u,a=mk u/\(∀i,l i=true->i<ops.size->φ i (u i) w)/\R l w) ?_ ?_ ops.size _ (mk u0) _ aN (by
  unfold S7;exact ae (List.length_filter_le _ _) aN) ⟨u0,rfl,?_,?_⟩
 ·rintro l a w i o ho hl hpre ⟨u,rfl,hφ,hR⟩;have ho':ops.toList[i]?=some o:=by simpa using ho
  have hp:=hput i o ho';have hs:=hstep i o ho';rw[ao]at hp hs;refine wpOp_step ho fun K' hK'=>?_;refine hs l u w hl (fun e he hb=>⟨hpre e he hb,hφ e.on (hpre e he hb) ?_⟩) hR K' (fun v w' a' hv hrel hR' ha'=>hK' _ _ ⟨_,ha'.trans (hp u v),fun j hj hjs=>?_,hR'⟩)
  ·exact kj
  by_cases hji:j=i
  ·subst hji;simpa using hv
  have hj':l j=true:=gC;simpa [hji]using hst' j _ w w' hrel (hφ j hj' hjs)
 ·rintro l a w hl ⟨u,rfl,hφ,hR⟩;exact lg
 ·intro i hi;simp[Array.getD]at hi
 have e:(fun j=>(Array.replicate ops.size false).getD j false)=fun _=>false:=by
  funext j
  simp[Array.getD]
 rw[e];exact h0
def Bu:List Nat->Nat->(Nat->Value)->List Value->List Value
 |[],_,_,t=>t
 |s::S,i,u,t=>Bu S (i+1) u (t.set s (u i))
def Cd(a:Act)(S:List Nat)(u:Nat->Value):Act:={tmps:=(Bu S 0 u a.tmps.toList).toArray,defers:=a.defers}
theorem Pq:∀(S:List Nat) (i:Nat) (u:Nat->Value) (t:List Value),(∀k s,S[k]?=some s->u (i+k)=t.getD s undef)->Bu S i u t=t
 |[],_,_,_,_=>rfl
 |s::S,i,u,t,h=>by
  have h0:u i=t.getD s undef:=by simpa using h 0 s rfl
  have e:t.set s (u i)=t:=by
   rw[h0];apply List.ext_getElem?;intro j;by_cases hj:s=j
   ·subst hj;by_cases hl:s<t.length
    ·simp[List.getD,hl]
    simp[hl]
   simp[hj]
  rw[Bu,e];exact Pq S (i+1) u t fun k s' hk=>by
   have:=h (k+1) s' (by simpa using hk);rwa [show i+1+k=i+(k+1)by omega]
theorem Nr:∀(S:List Nat) (i:Nat) (u v:Nat->Value) (t:List Value),(∀j,i<=j->u j=v j)->Bu S i u t=Bu S i v t
 |[],_,_,_,_,_=>rfl
 |s::S,i,u,v,t,h=>by
  rw[Bu,Bu,h i (Ao _)];exact Nr S (i+1) u v _ fun j hj=>h j aI
theorem Te:∀(S:List Nat) (i:Nat) (u:Nat->Value) (t:List Value) (s:Nat) (v:Value),s∉S->(Bu S i u t).set s v=Bu S i u (t.set s v)
 |[],_,_,_,_,_,_=>rfl
 |s'::S,i,u,t,s,v,h=>by
  have h1:s≠s':=fun e=>h (by simp[e]);rw[Bu,Bu,Te S (i+1) u _ s v (fun hm=>h (by simp[hm]))];congr 1
  exact(List.set_comm _ _ h1).symm
theorem Pz:∀(S:List Nat) (i:Nat) (u:Nat->Value) (t:List Value) (k s:Nat) (v:Value),S.Nodup->S[k]?=some s->(Bu S i u t).set s v=Bu S i (fun j=>if j=i+k then v else u j) t
 |[],_,_,_,k,s,v,_,h=>by simp at h
 |s'::S,i,u,t,0,s,v,hn,h=>by
  simp at h;subst h;rw[Bu,Bu,Te S (i+1) u _ s' v (List.nodup_cons.1 hn).1];rw[if_pos aI,List.set_set];exact Nr S (i+1) u _ _ fun j hj=>by rw[if_neg aI]
 |s'::S,i,u,t,k+1,s,v,hn,h=>by
  simp at h;rw[Bu,Bu,Pz S (i+1) u _ k s v (List.nodup_cons.1 hn).2 h,if_neg aI];rw[show i+1+k=i+(k+1)by omega]
theorem Qe:∀(S:List Nat) (i:Nat) (u:Nat->Value) (t:List Value) (k s:Nat) (v:Value),S[k]?=some s->t.length<=s->Bu S i u t=Bu S i (fun j=>if j=i+k then v else u j) t
 |[],_,_,_,k,s,v,h,_=>by simp at h
 |s'::S,i,u,t,0,s,v,h,hl=>by
  simp at h;subst h;rw[Bu,Bu,List.set_eq_of_length_le hl,List.set_eq_of_length_le hl];exact Nr S (i+1) u _ _ fun j hj=>by rw[if_neg aI]
 |s'::S,i,u,t,k+1,s,v,h,hl=>by
  simp at h;rw[Bu,Bu,Qe S (i+1) u _ k s v h fl,if_neg aI];rw[show i+1+k=i+(k+1)by omega]
def Mc(n:Nat):List Oper->List Nat->Bool
 |[],[]=>true
 |o::os,s::S=>(match o.dst with|some d=>d == s|none=>decide (n<=s)) && !S.contains s && Mc n os S
 |_,_=>false
theorem Po{n:Nat}:∀{os:List Oper} {S:List Nat},Mc n os S=true->S.Nodup/\∀(i:Nat) (o:Oper),os[i]?=some o->∃s,S[i]?=some s/\(o.dst=some s\/(o.dst=none/\n<=s))
 |[],[],_=>⟨List.nodup_nil,fun i o h=>by simp at h⟩
 |[],_::_,h=>by simp[Mc]at h
 |_::_,[],h=>by simp[Mc]at h
 |o::os,s::S,h=>by
  simp only[Mc,ax]at h;obtain⟨⟨h1,h2⟩,h3⟩:=h;obtain⟨hn,hs⟩:=Po h3;refine⟨List.nodup_cons.2 ⟨by simpa using h2,hn⟩,fun i o' ho=>?_⟩;cases i with
  |zero=>
   simp at ho;subst ho;refine⟨s,rfl,?_⟩;cases hd:o.dst with
   |some d=>rw[hd]at h1;simp at h1;exact .inl (by rw[h1])
   |none=>rw[hd]at h1;simp at h1;exact .inr ⟨rfl,h1⟩
  |succ i=>simpa using hs i o' (by simpa using ho)
theorem Jk{id:Nat}{a:Act}{w:World}(S:List Nat)(hm:P.follows .mixedOrders=true)(hac:(List.range ops.size).all (fun i=>((ops[i]?).map fun o=>o.after.all fun e=>!Region.binds .any e || decide (e.on<i)).getD true)=true)
  (hS:Mc a.tmps.size ops.toList S=true) {mk:(Nat->Value)->Act} (hmk:∀u,Cd a S u=mk u)
  (φ:Nat->Value->World->Prop) (R:(Nat->Bool)->World->Prop) (Rel:World->World->Prop)
  (hst:∀w w',Rel w w'->∀i v,φ i v w->φ i v w')
  (h0:R (fun _=>false) w.drew)
  (hstep:Ai (fun i o=>∀(l:Nat->Bool) u w,l i=false->(∀e∈o.after,Region.binds .any e=true->l e.on=true/\φ e.on (u e.on) w)->R l w ->
   ∀K:Act->World->Prop,(∀v w' a',φ i v w'->Rel w w'->R (fun j=>if j=i then true else l j) w'->a'=(mk u).put o.dst v->K a' w') ->
    if Region.wanted o (yielded ops (mk u).tmps)=true then Oper.wp P o (mk u) w K Q else K ((mk u).put o.dst undef) w) 0 ops.toList)
  (hdone:∀(l:Nat->Bool) u w,(∀i,i<ops.size->l i=true)->(∀i,i<ops.size->φ i (u i) w)->R l w->Q .normal (mk u) w):(Code.region id ops true).wp P Q a w:=by
 obtain rfl:Cd a S=mk:=funext hmk;obtain⟨hn,hs⟩:=Po hS;refine Z7 hm hac (Cd a S) (fun i=>a.tmps.toList.getD (S.getD i 0) undef) ?_ φ R Rel ?_ hst h0 hstep hdone
 ·exact kH
 intro i o ho u v;rw[ao];obtain⟨s,hsi,hd|⟨hd,hb⟩⟩:=hs i o ho
 ·exact jP
 have e:=Qe S 0 u a.tmps.toList i s v hsi (by simpa using hb);rw[ao]at e;unfold Cd Act.put;rw[hd];simp only[<-e]
end
end Go.Proofs.YtpjijpcemejlnaaGreatDoor
