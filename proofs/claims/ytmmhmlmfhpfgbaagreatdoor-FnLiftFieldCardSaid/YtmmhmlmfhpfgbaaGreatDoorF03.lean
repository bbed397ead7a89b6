/- Texts joined. Conditions: as each theorem names them. -/
import Derived.Deep.RegionWith
import Derived.Test.YtmmhmlmfhpfgbaaGreatDoorF02
set_option maxRecDepth 100000
set_option maxHeartbeats 32000000
set_option linter.unusedVariables false
set_option linter.unusedSimpArgs false
namespace Go.Proofs.YtmmhmlmfhpfgbaaGreatDoor
open Go.RowKit Go.Proofs.Tryz
section
attribute [local go_sem] Qoe Qnf Qmu Qk2 ByteArray.mk_append_mk
theorem Ae{a b c:World}{row:Option Nat}(h:a.grownBy b row)(k:b.grownBy c row):a.grownBy c row:=
 ⟨k.os.trans h.os,k.tape.trans h.tape,k.output.trans h.output,ad h.size k.size,fun i hi hne=>(k.block i (ac hi h.size) hne).trans (h.block i hi hne)⟩
theorem Cc{a w:World}(h:Below a a w)(row:Option Nat):a.grownBy w row:=⟨h.os,h.tape,h.output,h.size,fun i hi _=>h.block i hi⟩
theorem Gx{a b:World}{row:Option Nat}(h:a.grownBy b row):a.grownBy b.drew row:=⟨h.os,h.tape,h.output,h.size,h.block⟩
theorem Fg.ddrew{w:World}{g p:Nat}(h:Fg w g p):Fg w.drew g p:=h
theorem Fg.dalloc{w:World}{g p:Nat}(h:Fg w g p)(o:Obj):Fg (w.alloc o) g p:=h.below ((Ao _ _).alloc (An _) o)
def J1(W:World)(b:Nat)(ls:List (List UInt8)):Prop:=W.heap[b]?=some (.cells (By ls).toArray 9 (0,0))
theorem J1.new(W:World)(ls:List (List UInt8)):J1 (W.alloc (.cells (By ls).toArray 9)) W.heap.size ls:=heap_alloc_new W _
theorem J1.lt{W:World}{b:Nat}{ls:List (List UInt8)}(h:J1 W b ls):b<W.heap.size:=by
 rcases aG b W.heap.size with h1|h1
 ·exact h1
 unfold J1 at h;rw[Array.getElem?_eq_none h1]at h;cases h
theorem J1.grown{W W':World}{b r:Nat}{ls:List (List UInt8)}(h:J1 W b ls)(hg:W.grownBy W' (some r))(hne:b≠r):J1 W' b ls:=
 (hg.block b h.lt (fun e=>hne (Option.some.inj e))).trans h
theorem J1.cell{W:World}{b j:Nat}{ls:List (List UInt8)}(h:J1 W b ls)(hj:j<ls.length):∃s,s∈ls/\W.cell? ⟨b,j,none⟩=some (.string ⟨s.toArray⟩):=
 ⟨ls[j],ae hj,by unfold J1 at h;simp[World.cell?,h,By,hj]⟩
def Tv(Q:List UInt8->Prop)(w:World)(g p m:Nat)(e:Ending)(w':World):Prop:=
 ∃(l:List UInt8) (q:Nat),e=.returned l/\Q l/\q<=p+m/\Fg w' g q/\w.grownBy w' (some g)
def Qd:List (List UInt8):=[[110],[116],[102],[110],[116],[64,97,59],[64,98,59],[64,99,59]]
def Ro:List (List UInt8):=[[],[120],[64,59],[64,65,59],[91],[63,63,63,63,63,63,63,63,63,63,63,63,63,63,110],[64,97],[110,110]]
def DK(l:List UInt8):Prop:=(∃sg b,l=sg++b/\sg.length<=2/\sg.all Bn=true/\b∈Qd)\/l∈Ro
theorem DK.len{l:List UInt8}(h:DK l):l.length<=15:=by
 rcases h with⟨sg,b,rfl,h1,_,h3⟩|h
 ·have:∀b∈Qd,b.length<=3:=aJ;have:=this b h3;rw[ah];omega
 have:∀b∈Ro,b.length<=15:=aJ;exact this l h
theorem Ni(g p:Nat)(w:World)(h:Fg w g p)(hp:p<=100000000):
  Calls prog 111 #[g] w (Tv DK w g p 7):=by
 have hgl:=h.lt;have HR:=Aa h;clear h;go_enter func111,ntmps111;go_wp2_with fail;refine(Bs g p 8 _ (HR.o.dalloc _) aH aH aH).mono ?_;rintro e w1 ⟨x,rfl,hx1,_,hR1,hg1⟩;have hx:x<Qd.length:=by show x<8;omega
 obtain⟨b,hbm,hcell⟩:=((J1.new w Qd).grown hg1 aH).cell hx;have hbl:b.length<=3:=(show ∀b∈Qd,b.length<=3 by decide) b hbm;have i1:(0:Int)<=(x:Int):=aH;have i2:(x:Int)<8:=aH;have HR1:=Aa hR1;have Hg1:=Aa (Ae (World.grownBy_alloc w _ (some g)) hg1);have Hbm:=Aa hbm;clear hR1 hg1 hbm HR hx hx1;go_wp2_with fail;refine(Bs g (p+1) 4 _ HR1.o aH aH aH).mono ?_;rintro e w2 ⟨y,rfl,hy1,_,hR2,hg2⟩;have hy:y<=3:=aH;have HR2:=Aa hR2;have Hg2:=Aa (Ae Hg1.o hg2);clear hR2 hg2 HR1 Hg1 hy1 hcell;go_wp2_with fail;go_loopw [3,4] (fun s k wr=>∃(sg:List UInt8) (x q:Nat),s=.string ⟨(sg++b).toArray⟩/\k=.int .i64 x/\sg.length+x<=3/\(x=0->sg=[])/\Hid (sg.all Bn=true)/\q+x<=p+5/\g<wr.heap.size/\Hid (Fg wr g q)/\Hid (w.grownBy wr (some g))) (fun _ k _=>(intOf k).toNat)
 case atStart=>exact⟨[],y,p+2,by simp,rfl,by simp;omega,fun _=>rfl,rfl,by omega,HR2.o.lt,HR2.o,Hg2.o⟩
 case round=>
  obtain⟨sg,x,q,rfl,rfl,hlen,h0,hsg,hq,hgw,hR,hg⟩:=hrel;by_cases hx:1<x
  ·have hxi:(1:Int)<(x:Int):=aH;go_wp2_with fail;refine(Bs g q 3 _ (hR.o.dalloc _) aH aH aH).mono ?_;rintro e w3 ⟨z,rfl,hz1,_,hR3,hg3⟩;have hz:z<([[91],[63],[91]]:List (List UInt8)).length:=by show z<3;omega
   obtain⟨s3,hsm,hcell⟩:=((J1.new wr [[91],[63],[91]]).grown hg3 aH).cell hz;obtain⟨c,rfl,hc⟩:∃c,s3=[c]/\Bn c=true:=by
    simp at hsm;rcases hsm with rfl|rfl|rfl
    ·exact⟨91,rfl,by decide⟩
    ·exact⟨63,rfl,by decide⟩
    exact⟨91,rfl,by decide⟩
   have j1:(0:Int)<=(z:Int):=aH;have j2:(z:Int)<3:=aH;have HR3:=Aa hR3;have hg3l:=hR3.lt;have Hg3:=Aa (Ae hg.o (Ae (World.grownBy_alloc wr _ (some g)) hg3));have Hc:=Aa hc;have Hsg:=Aa hsg.o;clear hR3 hg3 hsm hc;go_wp2_with fail;go_roundw
   case rel=>exact⟨c::sg,x - 1,q+1,by simp,by go_num,by simp;omega,fun h=>by omega,by show List.all _ _=_;rw[List.all_cons,Hc.o,Hsg.o];rfl,by omega,hg3l,HR3.o,Hg3.o⟩
   case measure=>simp[intOf];omega
  ·have hxi:¬(1:Int)<(x:Int):=aH
   have Hsl:=Aa (show sg.length<=2 by
    by_cases hx0:x=0
    ·rw[h0 hx0];simp
    omega)
   have HRa:=Aa hR.o;have Hga:=Aa hg.o;have Hsg:=Aa hsg.o;go_wp2_with fail;refine(Bs g q 30 _ HRa.o aH aH aH).mono ?_;rintro e w3 ⟨z,rfl,hz1,_,hR3,hg3⟩;have HR3:=Aa hR3;have Hg3:=Aa (Ae Hga.o hg3);have hg3l:=hR3.lt;clear hR3 hg3 HRa Hga;by_cases hz0:z=0
   ·subst hz0;go_wp2_with fail;refine(Bs g (q+1) 8 _ (HR3.o.dalloc _) aH aH aH).mono ?_;rintro e w4 ⟨u,rfl,hu1,_,hR4,hg4⟩;have hu:u<Ro.length:=by show u<8;omega
    obtain⟨s4,hsm,hcell⟩:=((J1.new w3 Ro).grown hg4 aH).cell hu;have k1:(0:Int)<=(u:Int):=aH;have k2:(u:Int)<8:=aH;have HR4:=Aa hR4;have Hg4:=Aa (Ae Hg3.o (Ae (World.grownBy_alloc w3 _ (some g)) hg4));have Hsm:=Aa hsm;clear hR4 hg4 hsm;go_wp2_with fail;go_ret;exact⟨s4,q+1+1,rfl,.inr Hsm.o,by omega,HR4.o,Hg4.o⟩
   have hz2:((z:Int) == 0)=false:=aM;go_wp2_with fail;go_ret;exact⟨sg++b,q+1,rfl,.inl ⟨sg,b,rfl,Hsl.o,Hsg.o,Hbm.o⟩,by omega,HR3.o,Hg3.o⟩
def Mb(c:UInt8):Bool:=!Bn c && c != 64
theorem Qaa{c:UInt8}(h:Mb c=true)(st:Nat × Nat):Sb st c=some (st.2,0):=by
 simp only[Mb,aw,Bool.not_eq_true',bne_iff_ne]at h;unfold Sb;rw[h.1,if_neg aJ,if_neg (fun e=>h.2 e.1)]
theorem Qgq:∀(p:List UInt8),p.all Mb=true->∀u v,p≠[]->∃u' v',mach (u,v) p=some (u',v')/\(v=0->u'=0)/\v'=0/\u'<=v
 |[],_,_,_,h=>absurd rfl h
 |[c],h,u,v,_=>by
  simp only[List.all_cons,List.all_nil,Bool.and_true]at h;refine⟨v,0,?_,fun e=>e,rfl,An _⟩;rw[mach,Qaa h];rfl
 |c::d::p,h,u,v,_=>by
  simp only[List.all_cons,aw]at h;obtain⟨u',v',e,h1,h2,h3⟩:=Qgq (d::p) (by simp only[List.all_cons,aw];exact h.2) v 0 aK;refine⟨u',v',?_,fun _=>h1 rfl,h2,by omega⟩;rw[mach,Qaa h.1];exact e
theorem Qdg{p:List UInt8}(h:p.all Mb=true)(hn:p≠[])(u:Nat):mach (u,0) p=some (0,0):=by
 obtain⟨u',v',e,h1,h2,_⟩:=Qgq p h u 0 hn;rw[e,h1 rfl,h2]
def Kp(l:List UInt8):Prop:=∀u,u<=14->∃u' v',mach (u,0) l=some (u',v')/\u'<=14/\v'<=14
def Fm(l:List UInt8):Prop:=∀u,u<=14->∃u',mach (u,0) l=some (u',0)/\u'<=14
theorem Kp.sep{l:List UInt8}(h:Kp l){c:UInt8}(hc:Mb c=true):Fm (l++[c]):=fun u hu=>by
 obtain⟨u',v',e,h1,h2⟩:=h u hu;refine⟨v',?_,h2⟩;rw[Gf,e];simp only[mach];rw[Qaa hc]
theorem Fm.app{a b:List UInt8}(h:Fm a)(k:Fm b):Fm (a++b):=fun u hu=>by
 obtain⟨u',e,h1⟩:=h u hu;obtain⟨u2,e2,h2⟩:=k u' h1;exact⟨u2,by rw[Gf,e];exact e2,h2⟩
theorem Fm.appF{a b:List UInt8}(h:Fm a)(k:Kp b):Kp (a++b):=fun u hu=>by
 obtain⟨u',e,h1⟩:=h u hu;obtain⟨u2,v2,e2,h2,h3⟩:=k u' h1;exact⟨u2,v2,by rw[Gf,e];exact e2,h2,h3⟩
theorem Fm.plain{p:List UInt8}(h:p.all Mb=true)(hn:p≠[]):Fm p:=fun u hu=>⟨0,Qdg h hn u,by omega⟩
theorem Fm.toF{l:List UInt8}(h:Fm l):Kp l:=fun u hu=>by
 obtain⟨u',e,h1⟩:=h u hu;exact⟨u',0,e,h1,by omega⟩
theorem Fm.nil:Fm []:=fun u hu=>⟨u,rfl,hu⟩
def okM(l:List UInt8)(v:Nat):Bool:=match mach (0,v) l with|some (a,b)=>decide (a<=14) && decide (b<=14)|none=>false
theorem Yb{l:List UInt8}{v:Nat}(h:okM l v=true):∃a b,mach (0,v) l=some (a,b)/\a<=14/\b<=14:=by
 unfold okM at h;cases e:mach (0,v) l with
 |none=>rw[e]at h;cases h
 |some x=>
  obtain⟨a,b⟩:=x;rw[e]at h;simp only[aw,decide_eq_true_eq]at h;exact⟨a,b,rfl,h.1,h.2⟩
theorem DK.mach{l:List UInt8}(h:DK l):∃a b,Go.Proofs.YtmmhmlmfhpfgbaaGreatDoor.mach (0,0) l=some (a,b)/\a<=14/\b<=14:=by
 rcases h with⟨sg,b,rfl,h1,h2,h3⟩|h
 ·rw[Gf,J6 sg _ h2];simp only[am];have hd:∀b∈Qd,okM b 0=true/\okM b 1=true/\okM b 2=true:=aJ;obtain⟨d0,d1,d2⟩:=hd b h3;rcases(show sg.length=0\/sg.length=1\/sg.length=2 by omega)with e|e|e<;>rw[e]
  ·exact Yb d0
  ·exact Yb d1
  exact Yb d2
 have hd:∀l∈Ro,okM l 0=true:=aJ;exact Yb (hd l h)
theorem Kp.kind{p k:List UInt8}(hp:p.all Mb=true)(hn:p≠[])(hk:DK k):Kp (p++k):=fun u hu=>by
 rw[Gf,Qdg hp hn u];exact hk.mach
theorem Qko{c:UInt8}(h:Bl c=true):Mb c=true:=by
 have:=Dv.1 h;have h1:c≠91:=fH;have h2:c≠63:=fH;have h3:c≠64:=fH;simp[Mb,Bn,h1,h2,h3]
theorem Qck(n:Nat):(Ba n).all Mb=true:=List.all_eq_true.2 fun c hc=>Qko (List.all_eq_true.1 (Nt n) c hc)
def Qka:List (List UInt8):=[[53],[55,55],[57,57,57,57,57,57],[48]]
def Qkt:List (List UInt8):=[[104,105],[97,32,98],[]]
def Qkw:List (List UInt8):=[[121,101,115],[121,101,115],[110,111]]
theorem H9(g p:Nat)(c:UInt8)(tag:Nat)(nm:List UInt8)(w:World)(h:Fg w g p)(hp:p<=100000000)(hc:c=82\/c=85\/c=69)(ht:tag<=99)(hn:nm.length<=1)(hpl:nm.all Mb=true):
  Calls prog 188 #[g,.string ⟨[c].toArray⟩,(tag:Int),nm] w (Tv (fun l=>Kp l/\l.length<=20) w g p 9):=by
 have hgl:=h.lt;have HR:=Aa h;have Hd:=Aa (fun W=>Gj tag tag W (An _) aH);have hd2:=Da 1 tag (by have e:10 ^ (1+1)=100:=rfl;omega)
 have Hpre:=Aa (show (Ba tag++58::nm).all Mb=true/\(Ba tag++58::nm)≠[]by
  refine⟨?_,by simp⟩;rw[List.all_append,List.all_cons,Qck,hpl];decide)
 have Hpre2:=Aa (show (Ba tag++58::(nm++[58])).all Mb=true/\(Ba tag++58::(nm++[58]))≠[]by
  refine⟨?_,by simp⟩;rw[List.all_append,List.all_cons,List.all_append,Qck,hpl];decide)
 have Hnp:=Aa hpl;have Hdp:=Aa (Qck tag);clear h hpl;generalize Ba tag=dt at *;go_enter func188,ntmps188;go_wp2_with fail;refine(Hd.o _).mono ?_;rintro e w1 ⟨rfl,hb1⟩;have HR1:=Aa (HR.o.below hb1);have Hg1:=Aa (Cc hb1 (some g));clear hb1 HR;rcases hc with rfl|rfl|rfl
 ·go_wp2_with fail;refine(Ni g p _ HR1.o hp).mono ?_;rintro e w2 ⟨l,q,rfl,hl,hq,hR2,hg2⟩;have hll:=hl.len;have Hl:=Aa hl;have HR2:=Aa hR2;have Hg2:=Aa (Ae Hg1.o hg2);clear hl hR2 hg2 HR1 Hg1;go_wp2_with fail;refine(Bs g q 3 _ HR2.o aH aH aH).mono ?_;rintro e w3 ⟨z,rfl,hz1,_,hR3,hg3⟩;have HR3:=Aa hR3;have hg3l:=hR3.lt;have Hg3:=Aa (Ae Hg2.o hg3);clear hR3 hg3 HR2 Hg2;by_cases hz0:z=0
  ·subst hz0;by_cases hn1:l=[110]
   ·subst hn1;go_wp2_with fail;refine(Bs g (q+1) 8 _ (HR3.o.dalloc _) aH aH aH).mono ?_;rintro e w4 ⟨u,rfl,hu1,_,hR4,hg4⟩;have hu:u / 2 % 4<Qka.length:=by show u / 2 % 4<4;omega
    obtain⟨s4,hsm,hcell⟩:=((J1.new w3 Qka).grown hg4 aH).cell hu;have hs4:=(show ∀l∈Qka,l.all Mb=true/\l.length<=6 by decide) s4 hsm;have hs4l:=hs4.2;have k1:(0:Int)<=(u:Int) / 2 % 4:=aH;have k2:(u:Int) / 2 % 4<4:=aH;have HR4:=Aa hR4;have Hg4:=Aa (Ae Hg3.o (Ae (World.grownBy_alloc w3 _ (some g)) hg4));have Hs4:=Aa hs4;clear hR4 hg4 hsm hs4;go_wp2_with fail;go_ret;exact⟨dt++58::(nm++58::110::61::s4),q+1+1,by simp,⟨(Fm.plain cQ aK).toF,by have:=Hs4.o.2;simp;omega⟩,by omega,HR4.o,Hg4.o⟩
   have tn:(l == [110])=false:=by simpa using hn1
   by_cases hn2:l=[116]
   ·subst hn2;go_wp2_with fail;refine(Bs g (q+1) 7 _ (HR3.o.dalloc _) aH aH aH).mono ?_;rintro e w4 ⟨u,rfl,hu1,_,hR4,hg4⟩;have hu:u / 3<Qkt.length:=by show u / 3<3;omega
    obtain⟨s4,hsm,hcell⟩:=((J1.new w3 Qkt).grown hg4 aH).cell hu;have hs4:=(show ∀l∈Qkt,l.all Mb=true/\l.length<=3 by decide) s4 hsm;have hs4l:=hs4.2;have k1:(0:Int)<=(u:Int) / 3:=aH;have k2:(u:Int) / 3<3:=aH;have HR4:=Aa hR4;have Hg4:=Aa (Ae Hg3.o (Ae (World.grownBy_alloc w3 _ (some g)) hg4));have Hs4:=Aa hs4;clear hR4 hg4 hsm hs4;go_wp2_with fail;go_ret;exact⟨dt++58::(nm++58::116::61::39::(s4++[39])),q+1+1,by simp,⟨(Fm.plain cQ aK).toF,by have:=Hs4.o.2;simp;omega⟩,by omega,HR4.o,Hg4.o⟩
   have tt:(l == [116])=false:=by simpa using hn2
   by_cases hn3:l=[102]
   ·subst hn3;go_wp2_with fail;refine(Bs g (q+1) 7 _ (HR3.o.dalloc _) aH aH aH).mono ?_;rintro e w4 ⟨u,rfl,hu1,_,hR4,hg4⟩;have hu:u / 3<Qkw.length:=by show u / 3<3;omega
    obtain⟨s4,hsm,hcell⟩:=((J1.new w3 Qkw).grown hg4 aH).cell hu;have hs4:=(show ∀l∈Qkw,l.all Mb=true/\l.length<=3 by decide) s4 hsm;have hs4l:=hs4.2;have k1:(0:Int)<=(u:Int) / 3:=aH;have k2:(u:Int) / 3<3:=aH;have HR4:=Aa hR4;have Hg4:=Aa (Ae Hg3.o (Ae (World.grownBy_alloc w3 _ (some g)) hg4));have Hs4:=Aa hs4;clear hR4 hg4 hsm hs4;go_wp2_with fail;go_ret;exact⟨dt++58::(nm++58::102::61::s4),q+1+1,by simp,⟨(Fm.plain cQ aK).toF,by have:=Hs4.o.2;simp;omega⟩,by omega,HR4.o,Hg4.o⟩
   have tf:(l == [102])=false:=by simpa using hn3
   clear hn1 hn2 hn3;go_wp2_with fail;exact jO
  have tz:((z:Int) == 0)=false:=aM;clear hz0;go_wp2_with fail;exact jO
 ·go_wp2_with fail;refine(Ni g p _ HR1.o hp).mono ?_;rintro e w2 ⟨l,q,rfl,hl,hq,hR2,hg2⟩;have hll:=hl.len;have Hl:=Aa hl;have HR2:=Aa hR2;have Hg2:=Aa (Ae Hg1.o hg2);clear hl hR2 hg2 HR1 Hg1;go_wp2_with fail;go_ret;exact⟨(dt++58::(nm++[58]))++l,q,by simp,⟨Kp.kind Hpre2.o.1 Hpre2.o.2 Hl.o,by simp;omega⟩,by omega,HR2.o,Hg2.o⟩
 go_wp2_with fail;go_ret;exact⟨dt++58::nm,p,by simp,⟨(Fm.plain Hpre.o.1 Hpre.o.2).toF,by simp;omega⟩,by omega,HR1.o,Hg1.o⟩
theorem Kp.comma{l:List UInt8}(h:Kp l):Fm (l++[44]):=h.sep aJ
theorem Qh(g p:Nat)(c nc:UInt8)(w:World)(h:Fg w g p)(hp:p<=10000000)(hc:c=82\/c=85\/c=69)(hn:Mb nc=true):
  Calls prog 131 #[g,.string ⟨[c].toArray⟩,.string ⟨[nc].toArray⟩] w (Tv (fun l=>Fm l/\l.length<=88/\1<=l.length) w g p 50):=by
 have hgl:=h.lt;have HR:=Aa h
 have Hh:=Aa (show Fm [c,nc,61]from Fm.plain (by
  have hcp:Mb c=true:=by rcases hc with rfl|rfl|rfl<;>decide
  simp only[List.all_cons,List.all_nil,hcp,hn];decide) aK)
 have Hc:=Aa hc;clear h hn;go_enter func131,ntmps131;go_wp2_with fail;refine(Bs g p 4 _ HR.o aH aH aH).mono ?_;rintro e w1 ⟨x,rfl,hx1,_,hR1,hg1⟩;have hx:x<=3:=aH;have HR1:=Aa hR1;have Hg1:=Aa hg1;have hg1l:=hR1.lt;clear hR1 hg1 HR hx1;rcases hc with rfl|rfl|rfl
 ·go_wp2_with fail;refine(Bs g (p+1) 8 _ HR1.o aH aH aH).mono ?_;rintro e w2 ⟨z,rfl,hz1,_,hR2,hg2⟩;have HR2:=Aa hR2;have Hg2:=Aa (Ae Hg1.o hg2);have hg2l:=hR2.lt;clear hR2 hg2 HR1 Hg1 hz1;by_cases hz0:z=0
  ·subst hz0;go_wp2_with fail;go_loopw [7,8,10] (fun s t k wr=>∃(l:List UInt8) (tg k' q:Nat),s=l/\t=(tg:Int)/\k=(k':Int)/\k'<=0/\tg<=3*k'/\l.length<=3+21*k'/\1<=l.length/\Hid (Kp l)/\Hid (k'=0->Fm l)/\q<=(p+1+1)+11*k'/\g<wr.heap.size/\Hid (Fg wr g q)/\Hid (w.grownBy wr (some g))) (fun _ _ k _=>0 - (intOf k).toNat)
   case atStart=>exact⟨[82,nc,61],0,0,(p+1+1),by simp,rfl,rfl,ag _,An _,by simp,by simp,Hh.o.toF,fun _=>Hh.o,by omega,HR2.o.lt,HR2.o,Hg2.o⟩
   case round=>
    obtain⟨l,tg,k,q,rfl,rfl,rfl,hk,htg,hll,hl1,hF,hL,hq,hgw,hR,hg⟩:=hrel;by_cases hlt:k<0
    ·exact absurd hlt (Nat.not_lt_zero _)
    ·have k2:¬(k:Int)<0:=aH;have HRf:=Aa hR.o;have Hgf:=Aa hg.o;have HFf:=Aa hF.o;go_wp2_with fail;go_ret;exact⟨l++[10],q,by simp,⟨HFf.o.sep aJ,by simp only[ah,List.length_cons,List.length_nil];omega,by simp⟩,by omega,HRf.o,Hgf.o⟩
  have tz:((z:Int) == 0)=false:=aM;clear hz0;go_wp2_with fail;go_loopw [7,8,10] (fun s t k wr=>∃(l:List UInt8) (tg k' q:Nat),s=l/\t=(tg:Int)/\k=(k':Int)/\k'<=(1+x)/\tg<=3*k'/\l.length<=3+21*k'/\1<=l.length/\Hid (Kp l)/\Hid (k'=0->Fm l)/\q<=(p+1+1)+11*k'/\g<wr.heap.size/\Hid (Fg wr g q)/\Hid (w.grownBy wr (some g))) (fun _ _ k _=>(1+x) - (intOf k).toNat)
  case atStart=>exact⟨[82,nc,61],0,0,(p+1+1),by simp,rfl,rfl,ag _,An _,by simp,by simp,Hh.o.toF,fun _=>Hh.o,by omega,HR2.o.lt,HR2.o,Hg2.o⟩
  case round=>
   obtain⟨l,tg,k,q,rfl,rfl,rfl,hk,htg,hll,hl1,hF,hL,hq,hgw,hR,hg⟩:=hrel;by_cases hlt:k<(1+x)
   ·have k2:(k:Int)<1+(x:Int):=aH;have k3:k<=3:=aH;go_wp2_with fail;refine(Bs g q 3 _ hR.o aH aH aH).mono ?_;rintro e w3 ⟨a,rfl,ha1,_,hR3,hg3⟩;have ha:a<=2:=aH;have HR3:=Aa hR3;have Hg3:=Aa (Ae hg.o hg3);clear hR3 hg3 ha1;go_wp2_with fail;refine(Bs g (q+1) 2 _ HR3.o aH aH aH).mono ?_;rintro e w4 ⟨b,rfl,hb1,_,hR4,hg4⟩;obtain⟨T,hT,hT2⟩:∃T:Nat,(T:Int)=(tg:Int)+1+(a:Int)*(b:Int)/\T<=3*(k+1):=by
     have hb:b=0\/b=1:=aH;rcases hb with rfl|rfl
     ·exact jH
     exact jP
    have hab:(a:Int)*(b:Int)<=2:=by
     have hb:b=0\/b=1:=aH;rcases hb with rfl|rfl
     ·simp
     simp;omega
    have hab0:0<=(a:Int)*(b:Int):=Int.mul_nonneg aH aH;have HR4:=Aa hR4;have Hg4:=Aa (Ae Hg3.o hg4);have HT:=Aa hT;have hg4l:=hR4.lt;clear hR4 hg4 HR3 Hg3 hb1 hT;by_cases hk0:k=0
    ·have HL:=Aa (hL.o hk0);have hki:¬(0:Int)<(k:Int):=aH;have hcv:=fun W=>Kz W w4 1 (C5 (112+k));rw[Df aH]at hcv;have hu:IntKind.u8.wrap (112+(k:Int))=((112+k:Nat):Int):=gM
     have Hnm:=Aa (show ([C5 (112+k)]:List UInt8).all Mb=true by
      have hk4:k=0\/k=1\/k=2\/k=3:=aH;rcases hk4 with rfl|rfl|rfl|rfl<;>decide)
     clear hk0;go_wp2_with fail;rw[<-HT.o];refine(H9 g (q+1+1) 82 T [C5 (112+k)] _ (HR4.o.dalloc _) aH aK aH aK Hnm.o).mono ?_;rintro e w5 ⟨l2,q2,rfl,⟨hl2,hl2n⟩,hq2,hR5,hg5⟩;have HR5:=Aa hR5;have hg5l:=hR5.lt;have Hg5:=Aa (Ae Hg4.o (Ae (World.grownBy_alloc w4 _ (some g)) hg5));have Hl2:=Aa hl2;clear hR5 hg5 hl2;go_wp2_with fail;go_roundw
     case rel=>exact⟨l++l2,T,k+1,q2,by simp,by first|rfl|rw[HT.o],by go_num,by omega,by omega,by rw[ah];omega,by rw[ah];omega,HL.o.appF Hl2.o,(fun h=>by omega),by omega,hg5l,HR5.o,Hg5.o⟩
     case measure=>simp[intOf];omega
    have hki:(0:Int)<(k:Int):=aH;have hcv:=fun W=>Kz W w4 1 (C5 (112+k));rw[Df aH]at hcv;have hu:IntKind.u8.wrap (112+(k:Int))=((112+k:Nat):Int):=gM
    have Hnm:=Aa (show ([C5 (112+k)]:List UInt8).all Mb=true by
     have hk4:k=0\/k=1\/k=2\/k=3:=aH;rcases hk4 with rfl|rfl|rfl|rfl<;>decide)
    have HF2:=Aa hF.o.comma;clear hk0;go_wp2_with fail;rw[<-HT.o];refine(H9 g (q+1+1) 82 T [C5 (112+k)] _ (HR4.o.dalloc _) aH aK aH aK Hnm.o).mono ?_;rintro e w5 ⟨l2,q2,rfl,⟨hl2,hl2n⟩,hq2,hR5,hg5⟩;have HR5:=Aa hR5;have hg5l:=hR5.lt;have Hg5:=Aa (Ae Hg4.o (Ae (World.grownBy_alloc w4 _ (some g)) hg5));have Hl2:=Aa hl2;clear hR5 hg5 hl2;go_wp2_with fail;go_roundw
    case rel=>exact⟨(l++[44])++l2,T,k+1,q2,by simp,by first|rfl|rw[HT.o],by go_num,by omega,by omega,by simp only[ah,List.length_cons,List.length_nil];omega,by simp only[ah,List.length_cons,List.length_nil];omega,HF2.o.appF Hl2.o,(fun h=>by omega),by omega,hg5l,HR5.o,Hg5.o⟩
    case measure=>simp[intOf];omega
   ·exact iv
 ·go_wp2_with fail;go_loopw [7,8,10] (fun s t k wr=>∃(l:List UInt8) (tg k' q:Nat),s=l/\t=(tg:Int)/\k=(k':Int)/\k'<=(1+x)/\tg<=3*k'/\l.length<=3+21*k'/\1<=l.length/\Hid (Kp l)/\Hid (k'=0->Fm l)/\q<=(p+1)+11*k'/\g<wr.heap.size/\Hid (Fg wr g q)/\Hid (w.grownBy wr (some g))) (fun _ _ k _=>(1+x) - (intOf k).toNat)
  case atStart=>exact⟨[85,nc,61],0,0,(p+1),by simp,rfl,rfl,ag _,An _,by simp,by simp,Hh.o.toF,fun _=>Hh.o,by omega,HR1.o.lt,HR1.o,Hg1.o⟩
  case round=>
   obtain⟨l,tg,k,q,rfl,rfl,rfl,hk,htg,hll,hl1,hF,hL,hq,hgw,hR,hg⟩:=hrel;by_cases hlt:k<(1+x)
   ·have k2:(k:Int)<1+(x:Int):=aH;have k3:k<=3:=aH;go_wp2_with fail;refine(Bs g q 3 _ hR.o aH aH aH).mono ?_;rintro e w3 ⟨a,rfl,ha1,_,hR3,hg3⟩;have ha:a<=2:=aH;have HR3:=Aa hR3;have Hg3:=Aa (Ae hg.o hg3);clear hR3 hg3 ha1;go_wp2_with fail;refine(Bs g (q+1) 2 _ HR3.o aH aH aH).mono ?_;rintro e w4 ⟨b,rfl,hb1,_,hR4,hg4⟩;obtain⟨T,hT,hT2⟩:∃T:Nat,(T:Int)=(tg:Int)+1+(a:Int)*(b:Int)/\T<=3*(k+1):=by
     have hb:b=0\/b=1:=aH;rcases hb with rfl|rfl
     ·exact jH
     exact jP
    have hab:(a:Int)*(b:Int)<=2:=by
     have hb:b=0\/b=1:=aH;rcases hb with rfl|rfl
     ·simp
     simp;omega
    have hab0:0<=(a:Int)*(b:Int):=Int.mul_nonneg aH aH;have HR4:=Aa hR4;have Hg4:=Aa (Ae Hg3.o hg4);have HT:=Aa hT;have hg4l:=hR4.lt;clear hR4 hg4 HR3 Hg3 hb1 hT;by_cases hk0:k=0
    ·have HL:=Aa (hL.o hk0);have hki:¬(0:Int)<(k:Int):=aH;have hcv:=fun W=>Kz W w4 1 (C5 (112+k));rw[Df aH]at hcv;have hu:IntKind.u8.wrap (112+(k:Int))=((112+k:Nat):Int):=gM
     have Hnm:=Aa (show ([C5 (112+k)]:List UInt8).all Mb=true by
      have hk4:k=0\/k=1\/k=2\/k=3:=aH;rcases hk4 with rfl|rfl|rfl|rfl<;>decide)
     clear hk0;go_wp2_with fail;rw[<-HT.o];refine(H9 g (q+1+1) 85 T [C5 (112+k)] _ (HR4.o.dalloc _) aH aK aH aK Hnm.o).mono ?_;rintro e w5 ⟨l2,q2,rfl,⟨hl2,hl2n⟩,hq2,hR5,hg5⟩;have HR5:=Aa hR5;have hg5l:=hR5.lt;have Hg5:=Aa (Ae Hg4.o (Ae (World.grownBy_alloc w4 _ (some g)) hg5));have Hl2:=Aa hl2;clear hR5 hg5 hl2;go_wp2_with fail;go_roundw
     case rel=>exact⟨l++l2,T,k+1,q2,by simp,by first|rfl|rw[HT.o],by go_num,by omega,by omega,by rw[ah];omega,by rw[ah];omega,HL.o.appF Hl2.o,(fun h=>by omega),by omega,hg5l,HR5.o,Hg5.o⟩
     case measure=>simp[intOf];omega
    have hki:(0:Int)<(k:Int):=aH;have hcv:=fun W=>Kz W w4 1 (C5 (112+k));rw[Df aH]at hcv;have hu:IntKind.u8.wrap (112+(k:Int))=((112+k:Nat):Int):=gM
    have Hnm:=Aa (show ([C5 (112+k)]:List UInt8).all Mb=true by
     have hk4:k=0\/k=1\/k=2\/k=3:=aH;rcases hk4 with rfl|rfl|rfl|rfl<;>decide)
    have HF2:=Aa hF.o.comma;clear hk0;go_wp2_with fail;rw[<-HT.o];refine(H9 g (q+1+1) 85 T [C5 (112+k)] _ (HR4.o.dalloc _) aH aK aH aK Hnm.o).mono ?_;rintro e w5 ⟨l2,q2,rfl,⟨hl2,hl2n⟩,hq2,hR5,hg5⟩;have HR5:=Aa hR5;have hg5l:=hR5.lt;have Hg5:=Aa (Ae Hg4.o (Ae (World.grownBy_alloc w4 _ (some g)) hg5));have Hl2:=Aa hl2;clear hR5 hg5 hl2;go_wp2_with fail;go_roundw
    case rel=>exact⟨(l++[44])++l2,T,k+1,q2,by simp,by first|rfl|rw[HT.o],by go_num,by omega,by omega,by simp only[ah,List.length_cons,List.length_nil];omega,by simp only[ah,List.length_cons,List.length_nil];omega,HF2.o.appF Hl2.o,(fun h=>by omega),by omega,hg5l,HR5.o,Hg5.o⟩
    case measure=>simp[intOf];omega
   ·exact iv
 go_wp2_with fail;go_loopw [7,8,10] (fun s t k wr=>∃(l:List UInt8) (tg k' q:Nat),s=l/\t=(tg:Int)/\k=(k':Int)/\k'<=(1+x)/\tg<=3*k'/\l.length<=3+21*k'/\1<=l.length/\Hid (Kp l)/\Hid (k'=0->Fm l)/\q<=(p+1)+11*k'/\g<wr.heap.size/\Hid (Fg wr g q)/\Hid (w.grownBy wr (some g))) (fun _ _ k _=>(1+x) - (intOf k).toNat)
 case atStart=>exact⟨[69,nc,61],0,0,(p+1),by simp,rfl,rfl,ag _,An _,by simp,by simp,Hh.o.toF,fun _=>Hh.o,by omega,HR1.o.lt,HR1.o,Hg1.o⟩
 case round=>
  obtain⟨l,tg,k,q,rfl,rfl,rfl,hk,htg,hll,hl1,hF,hL,hq,hgw,hR,hg⟩:=hrel;by_cases hlt:k<(1+x)
  ·have k2:(k:Int)<1+(x:Int):=aH;have k3:k<=3:=aH;go_wp2_with fail;refine(Bs g q 3 _ hR.o aH aH aH).mono ?_;rintro e w3 ⟨a,rfl,ha1,_,hR3,hg3⟩;have ha:a<=2:=aH;have HR3:=Aa hR3;have Hg3:=Aa (Ae hg.o hg3);clear hR3 hg3 ha1;go_wp2_with fail;refine(Bs g (q+1) 2 _ HR3.o aH aH aH).mono ?_;rintro e w4 ⟨b,rfl,hb1,_,hR4,hg4⟩;obtain⟨T,hT,hT2⟩:∃T:Nat,(T:Int)=(tg:Int)+1+(a:Int)*(b:Int)/\T<=3*(k+1):=by
    have hb:b=0\/b=1:=aH;rcases hb with rfl|rfl
    ·exact jH
    exact jP
   have hab:(a:Int)*(b:Int)<=2:=by
    have hb:b=0\/b=1:=aH;rcases hb with rfl|rfl
    ·simp
    simp;omega
   have hab0:0<=(a:Int)*(b:Int):=Int.mul_nonneg aH aH;have HR4:=Aa hR4;have Hg4:=Aa (Ae Hg3.o hg4);have HT:=Aa hT;have hg4l:=hR4.lt;clear hR4 hg4 HR3 Hg3 hb1 hT;by_cases hk0:k=0
   ·have HL:=Aa (hL.o hk0);have hki:¬(0:Int)<(k:Int):=aH;have hcv:=fun W=>Kz W w4 1 (C5 (112+k));rw[Df aH]at hcv;have hu:IntKind.u8.wrap (112+(k:Int))=((112+k:Nat):Int):=gM
    have Hnm:=Aa (show ([C5 (112+k)]:List UInt8).all Mb=true by
     have hk4:k=0\/k=1\/k=2\/k=3:=aH;rcases hk4 with rfl|rfl|rfl|rfl<;>decide)
    clear hk0;go_wp2_with fail;rw[<-HT.o];refine(H9 g (q+1+1) 69 T [C5 (112+k)] _ (HR4.o.dalloc _) aH aK aH aK Hnm.o).mono ?_;rintro e w5 ⟨l2,q2,rfl,⟨hl2,hl2n⟩,hq2,hR5,hg5⟩;have HR5:=Aa hR5;have hg5l:=hR5.lt;have Hg5:=Aa (Ae Hg4.o (Ae (World.grownBy_alloc w4 _ (some g)) hg5));have Hl2:=Aa hl2;clear hR5 hg5 hl2;go_wp2_with fail;go_roundw
    case rel=>exact⟨l++l2,T,k+1,q2,by simp,by first|rfl|rw[HT.o],by go_num,by omega,by omega,by rw[ah];omega,by rw[ah];omega,HL.o.appF Hl2.o,(fun h=>by omega),by omega,hg5l,HR5.o,Hg5.o⟩
    case measure=>simp[intOf];omega
   have hki:(0:Int)<(k:Int):=aH;have hcv:=fun W=>Kz W w4 1 (C5 (112+k));rw[Df aH]at hcv;have hu:IntKind.u8.wrap (112+(k:Int))=((112+k:Nat):Int):=gM
   have Hnm:=Aa (show ([C5 (112+k)]:List UInt8).all Mb=true by
    have hk4:k=0\/k=1\/k=2\/k=3:=aH;rcases hk4 with rfl|rfl|rfl|rfl<;>decide)
   have HF2:=Aa hF.o.comma;clear hk0;go_wp2_with fail;rw[<-HT.o];refine(H9 g (q+1+1) 69 T [C5 (112+k)] _ (HR4.o.dalloc _) aH aK aH aK Hnm.o).mono ?_;rintro e w5 ⟨l2,q2,rfl,⟨hl2,hl2n⟩,hq2,hR5,hg5⟩;have HR5:=Aa hR5;have hg5l:=hR5.lt;have Hg5:=Aa (Ae Hg4.o (Ae (World.grownBy_alloc w4 _ (some g)) hg5));have Hl2:=Aa hl2;clear hR5 hg5 hl2;go_wp2_with fail;go_roundw
   case rel=>exact⟨(l++[44])++l2,T,k+1,q2,by simp,by first|rfl|rw[HT.o],by go_num,by omega,by omega,by simp only[ah,List.length_cons,List.length_nil];omega,by simp only[ah,List.length_cons,List.length_nil];omega,HF2.o.appF Hl2.o,(fun h=>by omega),by omega,hg5l,HR5.o,Hg5.o⟩
   case measure=>simp[intOf];omega
  ·exact iv
structure Ty where
 sort:UInt8
 name:List UInt8
 fields:List Fd
deriving DecidableEq
def Gt(fs:List Fd)(f:Fd):Bool:=fs.all fun g=>decide (g.name≠f.name) && decide (g.tag<f.tag)
def Fx(st:UInt8):List (List UInt8)->List Fd->Option (List Fd)
 |[],acc=>some acc
 |p::ps,acc=>match Jl st p with
  |none=>none
  |some f=>if acc.length=8\/Gt acc f=false then none else Fx st ps (acc++[f])
def D4(st:UInt8):List (List UInt8)->List Fd->Option (List Fd)
 |[],acc=>some acc
 |p::ps,acc=>match Ce st p with
  |none=>none
  |some f=>if Gt acc f=false then none else D4 st ps (acc++[f])
def Fds(st:UInt8)(fs:List Fd):Prop:=(∀f∈fs,Tj st f)/\fs.Pairwise fun g f=>g.name≠f.name/\g.tag<f.tag
theorem Mw{fs:List Fd}{f:Fd}:Gt fs f=true↔∀g∈fs,g.name≠f.name/\g.tag<f.tag:=by simp[Gt]
theorem Qc5{st:UInt8}{fs:List Fd}{f:Fd}:Fds st (fs++[f])↔Fds st fs/\Tj st f/\Gt fs f=true:=by
 unfold Fds;rw[Mw,List.pairwise_append];constructor
 ·rintro⟨h1,h2,_,h3⟩;exact⟨⟨fun g hg=>h1 g (by simp[hg]),h2⟩,h1 f aK,fun g hg=>h3 g hg f aK⟩
 rintro⟨⟨h1,h2⟩,h3,h4⟩;refine⟨fun g hg=>?_,h2,by simp,fun g hg f' hf'=>?_⟩
 ·rcases af.1 hg with hg|hg
  ·exact h1 g hg
  simp at hg;subst hg;exact h3
 simp at hf';subst hf';exact h4 g hg
theorem Px(st:UInt8):∀(ps:List (List UInt8)) (acc r:List Fd),Fds st acc->(D4 st ps acc=some r↔Fds st r/\∃gs,r=acc++gs/\gs.map (Kr st)=ps)
 |[],acc,r,ha=>by
  simp only[D4,aj];constructor
  ·rintro rfl;exact⟨ha,[],by simp,rfl⟩
  rintro⟨_,gs,e,h⟩;have:gs=[]:=aR;subst this;simpa using e.symm
 |p::ps,acc,r,ha=>by
  simp only[D4];cases hf:Ce st p with
  |none=>
   simp only[reduceCtorEq,false_iff];rintro⟨hr,gs,rfl,h⟩;cases gs with
   |nil=>simp at h
   |cons g gs=>
    simp at h;have:=G8.2 ⟨hr.1 g aK,h.1⟩;rw[this]at hf;cases hf
  |some f=>
   obtain⟨ok,eb⟩:=G8.1 hf;simp only;by_cases hfit:Gt acc f=false
   ·rw[if_pos hfit];simp only[reduceCtorEq,false_iff];rintro⟨hr,gs,rfl,h⟩;cases gs with
    |nil=>simp at h
    |cons g gs=>
     simp at h;have hg:g=f:=Qgx (hr.1 g aK) ok (h.1.trans eb.symm);subst hg;have h2:Fds st (acc++[g]++gs):=dz;have h3:Fds st (acc++[g]):=⟨fun x hx=>h2.1 x (by simp at hx ⊢;rcases hx with hx|hx<;>simp[hx]),(List.pairwise_append.1 h2.2).1⟩
     rw[(Qc5.1 h3).2.2]at hfit;cases hfit
   rw[if_neg hfit];have hfit':Gt acc f=true:=by simpa using hfit
   rw[Px st ps (acc++[f]) r (Qc5.2 ⟨ha,ok,hfit'⟩)];constructor
   ·rintro⟨hr,gs,rfl,h⟩;exact⟨hr,f::gs,by simp,by simp[eb,h]⟩
   rintro⟨hr,gs,rfl,h⟩;cases gs with
   |nil=>simp at h
   |cons g gs=>
    simp at h;have hg:g=f:=Qgx (hr.1 g aK) ok (h.1.trans eb.symm);subst hg;exact⟨hr,gs,by simp,h.2⟩
theorem Su(st:UInt8):∀(ps:List (List UInt8)) (acc:List Fd),acc.length<=8->Fx st ps acc=(match D4 st ps acc with|some r=>if r.length<=8 then some r else none|none=>none)
 |[],acc,h=>by simp[Fx,D4,h]
 |p::ps,acc,h=>by
  simp only[Fx,D4,Qig];cases hf:Ce st p with
  |none=>rfl
  |some f=>
   simp only;by_cases hfit:Gt acc f=false
   ·rw[if_pos (.inr hfit),if_pos hfit]
   rw[if_neg hfit];by_cases h8:acc.length=8
   ·rw[if_pos (.inl h8)];have key:∀(ps:List (List UInt8)) (a r:List Fd),D4 st ps a=some r->a.length<=r.length:=by
     intro ps;induction ps with
     |nil=>intro a r h;simp[D4]at h;rw[h];exact Nat.le_refl _
     |cons q qs ih=>
      intro a r h;simp only[D4]at h;split at h
      ·cases h
      split at h
      ·cases h
      have:=ih _ _ h;simp at this;omega
    cases hr:D4 st ps (acc++[f])with
    |none=>rfl
    |some r=>
     have:=key _ _ _ hr;simp at this;simp only;rw[if_neg aH]
   rw[if_neg (by simp[h8,hfit])];exact Su st ps (acc++[f]) aM
def Eh(c:UInt8):Prop:=c=82\/c=85\/c=69
instance (c:UInt8):Decidable (Eh c):=by unfold Eh;infer_instance
def Fi(t:Ty):Prop:=Eh t.sort/\Be t.name=true/\Fds t.sort t.fields/\t.fields.length<=8/\(t.fields=[]->t.sort=82)
def V8(t:Ty):List UInt8:=t.sort::(t.name++61::Aw 44 (t.fields.map (Kr t.sort)))
def Fa(s:List UInt8):Option Ty:=
 match s with
 |[]=>none
 |c::r=>
  if ¬Eh c\/(Dl 61 r).2.2=false\/Be (Dl 61 r).1=false then none
  else if (Dl 61 r).2.1=[]then(if c=82 then some ⟨c,(Dl 61 r).1,[]⟩else none)
  else match Fx c (Al 44 (Dl 61 r).2.1) []with
   |some fs=>some ⟨c,(Dl 61 r).1,fs⟩
   |none=>none
theorem Qjc{c:UInt8}{ps:List (List UInt8)}(h:ps≠[])(h1:∀p∈ps,p≠[]):Aw c ps≠[]:=by
 cases ps with
 |nil=>exact absurd rfl h
 |cons p ps=>
  have:=h1 p aK;cases ps with
  |nil=>exact this
  |cons q ps=>rw[Cy c p aK];simp
theorem Qbw(st:UInt8):Fds st []:=⟨by simp,List.Pairwise.nil⟩
theorem Tb{st:UInt8}{ps:List (List UInt8)}{r:List Fd}:Fx st ps []=some r↔Fds st r/\r.length<=8/\r.map (Kr st)=ps:=by
 rw[Su st ps [] aK];constructor
 ·intro h;cases hs:D4 st ps []with
  |none=>rw[hs]at h;cases h
  |some x=>
   rw[hs]at h;simp only at h;split at h
   ·rename_i h8;injection h with h;subst h;obtain⟨h1,gs,e,h2⟩:=(Px st ps [] x (Qbw st)).1 hs;simp at e;subst e;exact⟨h1,h8,h2⟩
   cases h
 rintro⟨h1,h2,h3⟩;rw[(Px st ps [] r (Qbw st)).2 ⟨h1,r,by simp,h3⟩];simp[h2]
theorem Qhe{c:UInt8}(h:Eh c):c≠61/\c≠10:=by
 rcases h with rfl|rfl|rfl<;>exact⟨by decide,by decide⟩
theorem Gd{s:List UInt8}{t:Ty}:Fa s=some t↔Fi t/\V8 t=s:=by
 obtain⟨st,nm,fs⟩:=t;constructor
 ·intro h;unfold Fa at h;split at h
  ·cases h
  rename_i c r;split at h
  ·cases h
  rename_i hc;have hc1:Eh c:=Decidable.byContradiction fun hh=>hc (.inl hh);have hc2:(Dl 61 r).2.2=true:=by
   cases hb:(Dl 61 r).2.2 with
   |true=>rfl
   |false=>exact absurd (.inr (.inl hb)) hc
  have hc3:Be (Dl 61 r).1=true:=by
   cases hb:Be (Dl 61 r).1 with
   |true=>rfl
   |false=>exact absurd (.inr (.inr hb)) hc
  rcases Ga 61 r with⟨_,e⟩|⟨p,u,er,hp,e⟩
  ·rw[e]at hc2;cases hc2
  rw[e]at h hc3;simp only at h hc3;split at h
  ·rename_i hu;subst hu;split at h
   ·rename_i h82;injection h with h;injection h with e1 e2 e3;subst e1;subst e2;subst e3;exact⟨⟨hc1,hc3,Qbw _,by simp,fun _=>h82⟩,by rw[er];simp[V8,Aw]⟩
   cases h
  rename_i hu;cases hf:Fx c (Al 44 u) []with
  |none=>rw[hf]at h;cases h
  |some x=>
   rw[hf]at h;injection h with h;injection h with e1 e2 e3;subst e1;subst e2;subst e3;obtain⟨f1,f2,f3⟩:=Tb.1 hf;obtain⟨s1,_,s3⟩:=Ej.1 f3.symm;exact⟨⟨hc1,hc3,f1,f2,fun hh=>by simp only at hh;subst hh;exact absurd rfl s1⟩,by rw[er];simp only[V8];rw[s3]⟩
 rintro⟨⟨h1,h2,h3,h4,h5⟩,rfl⟩;simp only at h1 h2 h3 h4 h5;have hno:61∉nm:=(Es (Ek h2)).2.2.2;unfold Fa V8;simp only;rw[E7 hno];simp only;rw[if_neg (by simp[h1,h2])];by_cases hf:fs=[]
 ·subst hf;rw[h5 rfl];simp[Aw]
 have hn:Aw 44 (fs.map (Kr st))≠[]:=Qjc (by simpa using hf) (by
  intro p hp;obtain⟨f,hf',rfl⟩:=ax.1 hp;exact(Va (h3.1 f hf')).2.2)
 have hs:Al 44 (Aw 44 (fs.map (Kr st)))=fs.map (Kr st):=Nd 44 _ (by simpa using hf) (by
  intro p hp;obtain⟨f,hf',rfl⟩:=ax.1 hp;exact(Va (h3.1 f hf')).2.1)
 rw[if_neg hn,hs,Tb.2 ⟨h3,h4,rfl⟩]
theorem Qa9{t:Ty}(h:Fi t):10∉V8 t/\V8 t≠[]:=by
 refine⟨?_,by unfold V8;simp⟩;obtain⟨h1,h2,h3,_,_⟩:=h;unfold V8;simp only[af,aA,not_or];refine⟨fun e=>(Qhe h1).2 e.symm,(Es (Ek h2)).1,by decide,?_⟩;have key:∀ps:List (List UInt8),(∀p∈ps,(10:UInt8)∉p)->(10:UInt8)∉Aw 44 ps:=by
  intro ps;induction ps with
  |nil=>intro _;simp[Aw]
  |cons p ps ih=>
   intro hp;cases ps with
   |nil=>exact hp p aK
   |cons q ps=>
    rw[Cy 44 p aK];simp only[af,aA,not_or];refine⟨hp p aK,by decide,ih (fun x hx=>hp x (by simp[hx]))⟩
 apply key;intro p hp;obtain⟨f,hf',rfl⟩:=ax.1 hp;exact(Va (h3.1 f hf')).1
theorem Qcu{t u:Ty}(ht:Fi t)(hu:Fi u)(h:V8 t=V8 u):t=u:=by
 have h1:=Gd.2 ⟨ht,rfl⟩;have h2:=Gd.2 ⟨hu,h.symm⟩;rw[h1]at h2;injection h2
def scB(S:List Ty):List UInt8:=S.flatMap fun t=>V8 t++[10]
def Nl(S:List Ty):Prop:=(∀t∈S,Fi t)/\S.length<=8/\S.Pairwise fun t u=>t.name≠u.name
def Gn:Nat->List UInt8->List Ty->Option (List Ty)
 |0,_,_=>none
 |n+1,s,acc=>
  if s=[]then some acc
  else if (Dl 10 s).2.2=false\/acc.length=8 then none
  else match Fa (Dl 10 s).1 with
   |none=>none
   |some t=>if acc.any (fun u=>decide (u.name=t.name))=true then none else Gn n (Dl 10 s).2.1 (acc++[t])
theorem Qbs{S:List Ty}{t:Ty}:Nl (S++[t])↔Nl S/\Fi t/\S.length<8/\S.any (fun u=>decide (u.name=t.name))=false:=by
 unfold Nl;rw[List.pairwise_append];constructor
 ·rintro⟨h1,h2,h3,_,h4⟩;simp at h2;refine⟨⟨fun u hu=>h1 u (by simp[hu]),by omega,h3⟩,h1 t aK,by omega,?_⟩;simp;intro u hu;exact h4 u hu t aK
 rintro⟨⟨h1,h2,h3⟩,h4,h5,h6⟩;simp at h6;refine⟨fun u hu=>?_,by simp;omega,h3,by simp,fun u hu v hv=>?_⟩
 ·rcases af.1 hu with hu|hu
  ·exact h1 u hu
  simp at hu;subst hu;exact h4
 simp at hv;subst hv;exact h6 u hu
theorem Qr(t:Ty)(S:List Ty):scB (t::S)=V8 t++10::scB S:=by simp[scB]
theorem V7:∀(n:Nat) (s:List UInt8) (acc r:List Ty),s.length<n->Nl acc->(Gn n s acc=some r↔Nl r/\∃U,r=acc++U/\scB U=s)
 |0,s,acc,r,h,_=>absurd h (Nat.not_lt_zero _)
 |n+1,s,acc,r,h,ha=>by
  simp only[Gn];by_cases hs:s=[]
  ·subst hs;rw[if_pos rfl];constructor
   ·intro hh;injection hh with hh;subst hh;exact⟨ha,[],by simp,rfl⟩
   rintro⟨_,U,rfl,e⟩;cases U with
   |nil=>simp
   |cons t U=>rw[Qr]at e;simp at e
  rw[if_neg hs];rcases Ga 10 s with⟨hn,e⟩|⟨p,u,es,hp,e⟩
  ·rw[e,if_pos (.inl rfl)];simp only[reduceCtorEq,false_iff];rintro⟨_,U,rfl,eU⟩;cases U with
   |nil=>exact hs eU.symm
   |cons t U=>rw[Qr]at eU;rw[<-eU]at hn;simp at hn
  rw[e];simp only;by_cases h8:acc.length=8
  ·rw[if_pos (.inr h8)];simp only[reduceCtorEq,false_iff];rintro⟨hr,U,rfl,eU⟩;cases U with
   |nil=>exact hs eU.symm
   |cons t U=>have:=hr.2.1;simp at this;omega
  rw[if_neg (by simp[h8])];have hsplit:∀t U,Fi t->scB (t::U)=s->V8 t=p/\scB U=u:=by
   intro t U ht eU;rw[Qr,es]at eU;have h1:=E7 (s:=scB U) (Qa9 ht).1;rw[eU,E7 hp]at h1;injection h1 with e1 e2;injection e2 with e2 _;exact⟨e1.symm,e2.symm⟩
  cases ht:Fa p with
  |none=>
   simp only[reduceCtorEq,false_iff];rintro⟨hr,U,rfl,eU⟩;cases U with
   |nil=>exact hs eU.symm
   |cons t U=>
    have ok:Fi t:=hr.1 t aK;rw[Gd.2 ⟨ok,(hsplit t U ok eU).1⟩]at ht;cases ht
  |some t=>
   obtain⟨ok,eb⟩:=Gd.1 ht;simp only;by_cases hd:acc.any (fun u=>decide (u.name=t.name))=true
   ·rw[if_pos hd];simp only[reduceCtorEq,false_iff];rintro⟨hr,U,rfl,eU⟩;cases U with
    |nil=>exact hs eU.symm
    |cons t' U=>
     have ok':Fi t':=hr.1 t' aK;have ett:t'=t:=Qcu ok' ok ((hsplit t' U ok' eU).1.trans eb.symm);subst ett;simp at hd;obtain⟨v,hv,hvn⟩:=hd;exact(List.pairwise_append.1 hr.2.2).2.2 v hv t' aK hvn
   rw[if_neg hd];have hlen:u.length<n:=by rw[es]at h;simp at h;omega
   rw[V7 n u (acc++[t]) r hlen (Qbs.2 ⟨ha,ok,by have:=ha.2.1;omega,by simpa using hd⟩)];constructor
   ·rintro⟨hr,U,rfl,eU⟩;exact⟨hr,t::U,by simp,by rw[Qr,eb,eU,es]⟩
   rintro⟨hr,U,rfl,eU⟩;cases U with
   |nil=>exact absurd eU.symm hs
   |cons t' U=>
    have ok':Fi t':=hr.1 t' aK;obtain⟨e1,e2⟩:=hsplit t' U ok' eU;have ett:t'=t:=Qcu ok' ok (e1.trans eb.symm);subst ett;exact⟨hr,U,by simp,e2⟩
def Dr(s:List UInt8):Option Ty:=
 match Dl 61 s with
 |(c::nm,u,true)=>
  if ¬Be nm=true\/¬Eh c then none
  else if u=[]then(if c=82 then some ⟨c,nm,[]⟩else none)
  else match D4 c (Al 44 u) []with
   |some r=>if r.length<=8 then some ⟨c,nm,r⟩else none
   |none=>none
 |_=>none
theorem Qd7(s:List UInt8):Dr s=Fa s:=by
 cases s with
 |nil=>rfl
 |cons c r=>
  unfold Dr Fa;by_cases hc:c=61
  ·subst hc;have e:Dl 61 (61::r)=([],r,true):=E7 (p:=[]) aK;rw[e];simp only;rw[if_pos (.inl aJ)]
  rcases Ga 61 r with⟨hn,e⟩|⟨p,u,er,hp,e⟩
  ·have e2:Dl 61 (c::r)=(c::r,[],false):=Rq (by simp;exact⟨fun h=>hc h.symm,hn⟩);rw[e2];simp[e]
  have e2:Dl 61 (c::r)=(c::p,u,true):=by
   rw[er];exact E7 (p:=c::p) (by simp;exact⟨fun h=>hc h.symm,hp⟩)
  rw[e2];simp only[e];by_cases h1:Be p=true
  ·by_cases h2:Eh c
   ·by_cases hu:u=[]
    ·subst hu;simp[h1,h2]
    have hx:∀(a b:Option Ty),(if ¬Be p=true\/¬Eh c then a else b)=b:=fun a b=>if_neg (by simp[h1,h2]);have hy:∀(a b:Option Ty),(if ¬Eh c\/true=false\/Be p=false then a else b)=b:=fun a b=>if_neg (by simp[h1,h2]);have hz:∀(a b:Option Ty),(if u=[]then a else b)=b:=fun a b=>if_neg hu;rw[hx,hy,hz,hz,Su c _ [] aK];cases D4 c (Al 44 u) []with
    |none=>rfl
    |some r=>simp only;split<;>rfl
   rw[if_pos (.inr h2),if_pos (.inl h2)]
  rw[if_pos (.inl h1),if_pos (.inr (.inr eX))]
def Fw:List (List UInt8)->Option (List Ty)
 |[]=>some []
 |p::ps=>match Fa p with
  |none=>none
  |some t=>match Fw ps with
   |none=>none
   |some ts=>some (t::ts)
theorem Qk:∀(ps:List (List UInt8)) (ts:List Ty),Fw ps=some ts↔(∀t∈ts,Fi t)/\ts.map V8=ps
 |[],ts=>by
  simp only[Fw,aj];constructor
  ·rintro rfl;simp
  rintro⟨_,h⟩;simpa using h.symm
 |p::ps,ts=>by
  simp only[Fw];cases ht:Fa p with
  |none=>
   simp only[reduceCtorEq,false_iff];rintro⟨h,e⟩;cases ts with
   |nil=>simp at e
   |cons t ts=>
    simp at e;rw[Gd.2 ⟨h t aK,e.1⟩]at ht;cases ht
  |some t=>
   obtain⟨ok,eb⟩:=Gd.1 ht;simp only;have ih:=Qk ps;constructor
   ·intro h;cases hr:Fw ps with
    |none=>rw[hr]at h;cases h
    |some us=>
     rw[hr]at h;injection h with h;subst h;obtain⟨i1,i2⟩:=(ih us).1 hr;exact⟨by simpa using⟨ok,i1⟩,by simp[eb,i2]⟩
   rintro⟨h,e⟩;cases ts with
   |nil=>simp at e
   |cons u us=>
    simp at e;have:u=t:=Qcu (h u aK) ok (e.1.trans eb.symm);subst this;rw[(ih us).2 ⟨fun x hx=>h x (by simp[hx]),e.2⟩]
def Pu(s:List UInt8):Option (List Ty):=
 if 9<(Al 10 s).length\/(Al 10 s).getLast?≠some []then none else Fw (Al 10 s).dropLast
theorem Qdn(S:List Ty):Aw 10 (S.map V8++[[]])=scB S:=by
 induction S with
 |nil=>rfl
 |cons t S ih=>
  rw[ay,av,Cy 10 _ aK,ih,Qr]
theorem Qdy{s:List UInt8}{S:List Ty}:Pu s=some S↔(∀t∈S,Fi t)/\S.length<=8/\scB S=s:=by
 unfold Pu;constructor
 ·intro h;split at h
  ·cases h
  rename_i hc;have h9:(Al 10 s).length<=9:=by
   rcases aG 9 (Al 10 s).length with hh|hh
   ·exact absurd (.inl hh) hc
   exact hh
  have hl:(Al 10 s).getLast?=some []:=by
   refine Decidable.byContradiction fun hh=>hc (.inr hh)
  obtain⟨t1,t2⟩:=(Qk _ _).1 h;have e:Al 10 s=S.map V8++[[]]:=by
   rcases Fk (Al 10 s)with hh|⟨t,c,hh⟩
   ·exact absurd hh (Ew 10 s)
   rw[hh]at hl t2 ⊢;simp at hl t2;rw[t2,hl]
  have hs:=Q4 10 s;rw[e,Qdn]at hs;rw[e]at h9;simp at h9;exact⟨t1,h9,hs⟩
 rintro⟨h1,h2,rfl⟩;have e:Al 10 (scB S)=S.map V8++[[]]:=by
  rw[<-Qdn];refine Nd 10 _ aK ?_;intro p hp;rcases af.1 hp with hp|hp
  ·obtain⟨t,ht,rfl⟩:=ax.1 hp;exact(Qa9 (h1 t ht)).1
  simp at hp;subst hp;simp
 rw[e,if_neg aM];simp only[List.dropLast_concat];exact(Qk _ _).2 ⟨h1,rfl⟩
def Bk(S:List Ty)(n:List UInt8):Option Ty:=S.find? fun t=>decide (t.name=n)
theorem Cf{S:List Ty}{n:List UInt8}{t:Ty}(h:Bk S n=some t):t∈S/\t.name=n:=by
 have h1:=List.mem_of_find?_eq_some h;have h2:=List.find?_some h;exact⟨h1,by simpa using h2⟩
def B6(S:List Ty)(k:Kd):Prop:=k.base=[64]->(Bk S k.name).isSome=true
instance (S:List Ty) (k:Kd):Decidable (B6 S k):=by unfold B6;infer_instance
def H8(S:List Ty):Prop:=∀t∈S,t.sort≠69->∀f∈t.fields,B6 S f.kind
instance (S:List Ty):Decidable (H8 S):=by unfold H8;infer_instance
def Fy(S:List Ty)(t:Ty):Option Ty:=
 if t.sort=85 then(match t.fields with
  |f::_=>if f.kind.signs=[]/\f.kind.base=[64]then Bk S f.kind.name else none
  |[]=>none)else none
def Ca(S:List Ty):Nat->Ty->Bool
 |0,_=>false
 |n+1,t=>match Fy S t with
  |none=>true
  |some u=>Ca S n u
theorem Qgd{S:List Ty}{t u:Ty}(h:Fy S t=some u):u∈S:=by
 unfold Fy at h;split at h
 ·split at h
  ·split at h
   ·exact(Cf h).1
   cases h
  cases h
 cases h
theorem Ms(S:List Ty):∀(n:Nat) (t:Ty),Ca S n t=true->∀m,n<=m->Ca S m t=true
 |0,t,h,_,_=>by simp[Ca]at h
 |n+1,t,h,m,hm=>by
  obtain⟨k,rfl⟩:∃k,m=k+1:=⟨m - 1,by omega⟩
  simp only[Ca]at h ⊢;cases hn:Fy S t with
  |none=>rfl
  |some u=>
   rw[hn]at h;exact Ms S n u h k aH
theorem Ma:∀(l S:List Ty),l.Nodup->(∀x∈l,x∈S)->l.length<=S.length
 |[],S,_,_=>ag _
 |x::l,S,hn,hs=>by
  obtain⟨h1,h2⟩:=List.nodup_cons.1 hn;have hx:=hs x aK
  have ih:=Ma l (S.erase x) h2 (fun y hy=>by
   have hne:y≠x:=by rintro rfl;exact h1 hy
   exact(List.mem_erase_of_ne hne).2 (hs y gk))
  have hl:=List.length_erase_of_mem hx;have hp:0<S.length:=List.length_pos_iff.2 (by rintro rfl;cases hx);simp;omega
theorem Zr(S:List Ty):∀(n:Nat) (t:Ty),t∈S->Ca S (n+1) t=true->Ca S n t=false ->
  ∃l:List Ty,l.length=n+1/\(∀u∈l,u∈S)/\l.Nodup/\∀u∈l,Ca S (n+1) u=true
 |0,t,ht,h1,_=>⟨[t],rfl,by simpa using ht,by simp,by simpa using h1⟩
 |n+1,t,ht,h1,h2=>by
  have hn:∃u,Fy S t=some u:=by
   cases hh:Fy S t with
   |none=>simp[Ca,hh]at h2
   |some u=>exact⟨u,rfl⟩
  obtain⟨u,hu⟩:=hn;have e1:Ca S (n+1) u=true:=by simp only[Ca,hu]at h1;simpa [Ca]using h1
  have e2:Ca S n u=false:=by simp only[Ca,hu]at h2;exact h2
  obtain⟨l,l1,l2,l3,l4⟩:=Zr S n u (Qgd hu) e1 e2;refine⟨t::l,by simp[l1],?_,List.nodup_cons.2 ⟨fun hm=>?_,l3⟩,?_⟩
  ·intro x hx;rcases aA.1 hx with rfl|hx
   ·exact ht
   exact l2 x hx
  ·rw[l4 t hm]at h2;cases h2
  intro x hx;rcases aA.1 hx with rfl|hx
  ·exact h1
  exact Ms S _ _ (l4 x hx) _ aH
theorem V6(S:List Ty)(t:Ty)(ht:t∈S)(n:Nat):Ca S n t=true->Ca S S.length t=true:=by
 induction n with
 |zero=>intro h;simp[Ca]at h
 |succ n ih=>
  intro h;by_cases h2:Ca S n t=true
  ·exact ih h2
  have h2':Ca S n t=false:=eY;obtain⟨l,l1,l2,l3,_⟩:=Zr S n t ht h h2';have:=Ma l S l3 l2;exact Ms S _ _ h _ aH
theorem Qa1(S:List Ty)(t:Ty)(ht:t∈S)(m n:Nat)(hm:S.length<=m)(hn:S.length<=n):Ca S m t=Ca S n t:=by
 cases h1:Ca S m t with
 |true=>exact(Ms S _ _ (V6 S t ht m h1) n hn).symm
 |false=>
  cases h2:Ca S n t with
  |false=>rfl
  |true=>rw[Ms S _ _ (V6 S t ht n h2) m hm]at h1;cases h1
def G7(S:List Ty):Prop:=Nl S/\H8 S/\∀t∈S,Ca S 9 t=true
def B9(s:List UInt8):Option (List Ty):=
 if 400<s.length then none
 else match Gn (s.length+1) s []with
  |none=>none
  |some S=>if H8 S/\(∀t∈S,Ca S 9 t=true)then some S else none
theorem Qdx:Nl []:=⟨by simp,by simp,List.Pairwise.nil⟩
theorem Vt{s:List UInt8}{S:List Ty}:Gn (s.length+1) s []=some S↔Nl S/\scB S=s:=by
 rw[V7 (s.length+1) s [] S aH Qdx];constructor
 ·rintro⟨h,U,e,h2⟩;simp at e;subst e;exact⟨h,h2⟩
 rintro⟨h,h2⟩;exact⟨h,S,by simp,h2⟩
theorem Jy{s:List UInt8}{S:List Ty}:B9 s=some S↔G7 S/\s.length<=400/\scB S=s:=by
 unfold B9;constructor
 ·intro h;split at h
  ·cases h
  rename_i h4;cases hl:Gn (s.length+1) s []with
  |none=>rw[hl]at h;cases h
  |some T=>
   rw[hl]at h;simp only at h;split at h
   ·rename_i hc;injection h with h;subst h;obtain⟨h1,h2⟩:=Vt.1 hl;exact⟨⟨h1,hc.1,hc.2⟩,by omega,h2⟩
   cases h
 rintro⟨⟨h1,h2,h3⟩,h4,h5⟩;rw[if_neg aH,Vt.2 ⟨h1,h5⟩];simp only;rw[if_pos ⟨h2,h3⟩]
theorem Qg{s:List UInt8}{S:List Ty}:B9 s=some S↔s.length<=400/\Pu s=some S/\(S.Pairwise fun t u=>t.name≠u.name)/\H8 S/\∀t∈S,Ca S (S.length+1) t=true:=by
 rw[Jy,Qdy];constructor
 ·rintro⟨⟨⟨h1,h2,h3⟩,h4,h5⟩,h6,h7⟩;exact⟨h6,⟨h1,h2,h7⟩,h3,h4,fun t ht=>by rw[Qa1 S t ht _ 9 aH aH];exact h5 t ht⟩
 rintro⟨h6,⟨h1,h2,h7⟩,h3,h4,h5⟩;exact⟨⟨⟨h1,h2,h3⟩,h4,fun t ht=>by rw[<-Qa1 S t ht (S.length+1) 9 aH aH];exact h5 t ht⟩,h6,h7⟩
def Tu(S:List Ty)(n:Nat)(k:Kd):Prop:=k.signs=[]->k.base=[64]->∃t,Bk S k.name=some t/\Ca S n t=true
def Do(S:List Ty):Nat->Kd->List UInt8
 |0,_=>[]
 |n+1,k=>
  if k.signs.head?=some 91 then[91,93]
  else if k.signs.head?=some 63 then[45]
  else if k.base=[110]then[48]
  else if k.base=[116]then[39,39]
  else if k.base=[102]then[110,111]
  else match Bk S k.name with
   |none=>[]
   |some t=>if t.sort=82 then[123,125]else
    match t.fields with
    |[]=>[]
    |f::_=>if t.sort=69 then 35::Ba f.tag else 60::(Ba f.tag++61::(Do S n f.kind++[62]))
theorem Xi{S:List Ty}{n:Nat}{k:Kd}{t:Ty}{f:Fd}{fs:List Fd}(h:Tu S (n+1) k)(h1:k.signs=[])(h2:k.base=[64])(hf:Bk S k.name=some t)(hs:t.sort=85)(hfs:t.fields=f::fs)(hr:B6 S f.kind):Tu S n f.kind:=by
 intro g1 g2;obtain⟨u,hu,he⟩:=h h1 h2;rw[hf]at hu;injection hu with hu;subst hu;have hn:Fy S t=Bk S f.kind.name:=by
  unfold Fy;rw[if_pos hs,hfs];simp only;rw[if_pos ⟨g1,g2⟩]
 have hr':=hr g2;cases hx:Bk S f.kind.name with
 |none=>rw[hx]at hr';cases hr'
 |some v=>
  simp only[Ca,hn,hx]at he;exact⟨v,rfl,he⟩
def Vp(S:List Ty)(k:Kd):List UInt8:=Do S 10 k
def G9(S:List Ty)(f:Fd):List UInt8:=if f.given=[]then Vp S f.kind else f.given
theorem Qaf(s:List UInt8)(k:Nat)(hk:k<=6)(h:(s.take k).all Bl=true):Gv (s.take k)<=999999:=by
 exact jQ
def Ef(s:List UInt8)(top:Nat):Bool:=match Cx s with|some m=>decide (m<=top)|none=>false
theorem N7{s:List UInt8}{top:Nat}(h:Cx s=none):Ef s top=false:=by unfold Ef;rw[h]
theorem Pb{s:List UInt8}{top n:Nat}(h:Cx s=some n):Ef s top=decide (n<=top):=by unfold Ef;rw[h]
def Qif(s:List UInt8)(top:Nat)(w:World)(e:Ending)(w':World):Prop:=
 ∃n:Nat,n<=999999/\e=.returned (.tuple #[.int .i64 n,.bool (Ef s top)])/\(∀m,Cx s=some m->m=n)/\Below w w w'
theorem D1(s:List UInt8)(m:Nat)(w:World)(hs:s.length<=4000000)(hm:m<=999999):
  Calls prog 127 #[s,.int .i64 m] w (Qif s m w):=by
 go_enter func127,ntmps127;go_wp2_with fail;go_loop [6,7] (fun x i=>∃k:Nat,i=.int .i64 k/\k<=s.length/\k<=6/\Hid ((s.take k).all Bl=true)/\Gv (s.take k)<=999999/\x=.int .i64 ((Gv (s.take k):Nat):Int)) (fun _ i=>s.length - (intOf i).toNat)
 case atStart=>exact⟨0,rfl,ag _,by omega,by simp[Hid],by simp[Gv],by simp[Gv]⟩
 case round=>
  obtain⟨k,rfl,hk,hk6,hdig,hv,rfl⟩:=hrel;by_cases hlt:k<s.length
  ·have hc:=(s[k]).toNat_lt;have Hts:=Aa (Cb s k hlt);have Hmem:=Aa (ae hlt);by_cases hd:Bl s[k]=true
   ·have hd2:=Dv.1 hd;obtain⟨d1,d2⟩:=hd2;by_cases h5:k<=5
    ·have hdig2:(s.take (k+1)).all Bl=true:=by
      rw[Hts.o,List.all_append,hdig.o];simp[hd]
     have hv2:=Qaf s (k+1) aH hdig2;have Hdig2:=Aa hdig2;have Hv:=Aa (show Gv (s.take (k+1))=10*Gv (s.take k)+((s[k]).toNat - 48)by rw[Hts.o,Mf]);clear hd hdig2;go_wp2_with fail;go_round
     case rel=>exact⟨k+1,by go_num,by omega,by omega,Hdig2.o,hv2,Qlb (by rw[Hv.o];omega)⟩
     case measure=>simp[intOf];omega
    have h5':5<k:=aH;have hno:Cx s=none:=by
     unfold Cx;rw[if_neg];rintro⟨_,h,_⟩;omega
    have Hn:=Aa (N7 (top:=m) hno);have Hno:=Aa hno;clear hd hno h5;go_wp2_with fail;go_ret2;exact jR
   have hno:Cx s=none:=by
    unfold Cx;rw[if_neg];rintro⟨_,_,h,_⟩;exact hd (List.all_eq_true.1 h _ Hmem.o)
   have Hn:=Aa (N7 (top:=m) hno);have Hno:=Aa hno;have h2:(s[k]).toNat<48\/(48<=(s[k]).toNat/\57<(s[k]).toNat):=by
    rcases aG (s[k]).toNat 48 with h|h
    ·exact .inl h
    rcases aG 57 (s[k]).toNat with h'|h'
    ·exact .inr ⟨h,h'⟩
    exact absurd (Dv.2 ⟨h,h'⟩) hd
   clear hd hno;rcases h2 with h2|⟨h2,h4⟩
   ·go_wp2_with fail;go_ret2;exact jR
   go_wp2_with fail;go_ret2;exact jR
  ·have e:s.take k=s:=au aH;rw[e]at hv ⊢;have hcase:(Cx s=some (Gv s)/\s=Ba (Gv s))\/(Cx s=none/\s≠Ba (Gv s)):=by
    by_cases h:s=Ba (Gv s)
    ·exact .inl ⟨Cl.2 ⟨hv,h⟩,h⟩
    refine .inr ⟨?_,h⟩;cases hd:Cx s with
    |none=>rfl
    |some n=>
     obtain⟨_,h2⟩:=Cl.1 hd;exact absurd (by rw[h2,Rk]) h
   clear hdig e;generalize Gv s=v at hv hcase;have hdl:=Da 5 v gn;rcases hcase with⟨h1,h2⟩|⟨h1,h2⟩
   ·have Hn:=Aa (Pb (top:=m) h1);have Hd:=Aa h1;have tq:(s == Ba v)=true:=eY;clear h1 h2;by_cases hvm:v<=m
    ·go_wp2_with fail;refine(Gj v v _ (An _) aH).mono ?_;rintro e w1 ⟨rfl,hb⟩;have Hb:=Aa hb;clear hb;go_wp2_with fail;go_ret2;exact⟨v,hv,by rw[Hn.o];exact Qlv rfl (Cz (by simp[hvm])),(fun m h=>by rw[Hd.o]at h;injection h with h;exact h.symm),Hb.o⟩
    have hvm':m<v:=aH;go_wp2_with fail;refine(Gj v v _ (An _) aH).mono ?_;rintro e w1 ⟨rfl,hb⟩;have Hb:=Aa hb;clear hb;go_wp2_with fail;go_ret2;exact⟨v,hv,by rw[Hn.o];exact Qlv rfl (Cz aM),(fun m h=>by rw[Hd.o]at h;injection h with h;exact h.symm),Hb.o⟩
   have Hn:=Aa (N7 (top:=m) h1);have Hd:=Aa h1;have tq:(s == Ba v)=false:=eY;clear h1 h2;go_wp2_with fail;refine(Gj v v _ (An _) aH).mono ?_;rintro e w1 ⟨rfl,hb⟩;have Hb:=Aa hb;clear hb;go_wp2_with fail;go_ret2;exact⟨v,hv,by rw[Hn.o];rfl,(fun m h=>by rw[Hd.o]at h;cases h),Hb.o⟩
def Gr(s:List UInt8):Bool:=decide (2<=s.length) && decide (s.head?=some 39) && decide (s.getLast?=some 39) && Dt (s.drop 1).dropLast
theorem Zh(s:List UInt8)(w:World)(hs:s.length<=4000000):
  Calls prog 158 #[s] w fun e w'=>e=.returned (.bool (Gr s))/\w=w':=by
 have hf:Gr s=(decide (2<=s.length) && decide (s.head?=some 39) && decide (s.getLast?=some 39) && Dt (s.drop 1).dropLast):=rfl;rcases aG s.length 2 with h2|h2
 ·have e0:decide (2<=s.length)=false:=aM;have Hf:=Aa (show Gr s=false by rw[hf,e0];simp);have t0:decide ((s.length:Int)<2)=true:=aM;clear hf e0;go_enter func158,ntmps158;go_wp2_with fail;exact jK
 have t0:decide ((s.length:Int)<2)=false:=aM;rcases aG 14 s.length with h14|h14
 ·have Hf:=Aa (show Gr s=false by
   have:Dt (s.drop 1).dropLast=false:=by
    unfold Dt;have e1:decide ((s.drop 1).dropLast.length<=12)=false:=aM;rw[e1];rfl
   rw[hf,this];simp)
  have t1:decide (14<(s.length:Int))=true:=aM;clear hf;go_enter func158,ntmps158;go_wp2_with fail;exact jK
 obtain⟨c,u,d,rfl⟩:∃c u d,s=c::(u++[d]):=by
  cases s with
  |nil=>simp at h2
  |cons c t=>
   rcases Fk t with rfl|⟨u,d,rfl⟩
   ·simp at h2
   exact⟨c,u,d,rfl⟩
 have hl:(c::(u++[d])).getLast?=some d:=by
  exact jL
 have hu:((c::(u++[d])).drop 1).dropLast=u:=aK;have e2:decide (2<=(c::(u++[d])).length)=true:=aK;rw[hl,hu,e2]at hf;simp only[List.head?_cons,aj,Bool.true_and]at hf;have Hf:=Aa hf;have hc:=c.toNat_lt;have hd:=d.toNat_lt;have hgd:∀h,(c::(u++[d]))[u.length+1]'h=d:=by intro h;simp
 have hul:u.length<=12:=by simp at h14;omega
 have Hfit:=Aa (show Dt u=u.all Co by simp[Dt,hul]);clear hf hl hu h2 hs h14 t0 e2;by_cases hc39:c=39
 ·have t1:((c.toNat:Int) != 39)=false:=by have:=Bj hc39;simpa using this
  have Hc:=Aa (show decide (c=39)=true by simpa using hc39);clear hc39;by_cases hd39:d=39
  ·have t2:((d.toNat:Int) != 39)=false:=by have:=Bj hd39;simpa using this
   have Hd:=Aa (show decide (d=39)=true by simpa using hd39);clear hd39;go_enter func158,ntmps158;go_wp2_with fail;go_loop [3] (fun i=>∃k:Nat,i=.int .i64 ((k:Int)+1)/\k<=u.length/\Hid ((u.take k).all Co=true)) (fun i=>u.length+1 - (intOf i).toNat)
   case atStart=>exact⟨0,rfl,ag _,by simp[Hid]⟩
   case round=>
    obtain⟨k,rfl,hk,hin⟩:=hrel;by_cases hlt:k<u.length
    ·have hg:∀h,(c::(u++[d]))[k+1]'h=u[k]:=by intro h;simp[List.getElem_append_left hlt]
     have Hts:=Aa (Cb u k hlt);have Hmem:=Aa (ae hlt);have hx:=(u[k]).toNat_lt;generalize u[k]=x at hg Hts Hmem hx;by_cases ht:Co x=true
     ·have Hin:=Aa (show (u.take (k+1)).all Co=true by rw[Hts.o,List.all_append,hin.o];simp[ht]);have h3:x=32\/(x.toNat≠32/\48<=x.toNat/\x.toNat<=57)\/(57<x.toNat/\97<=x.toNat/\x.toNat<=122):=by
       unfold Co at ht;simp only[Bool.or_eq_true]at ht;rcases ht with(h|h)|h
       ·have:=Nw.1 h;exact .inr (.inr ⟨by omega,this⟩)
       ·have:=Dv.1 h;exact .inr (.inl ⟨by omega,this⟩)
       exact .inl aR
      clear ht;rcases h3 with h3|⟨h3,h4,h5⟩|⟨h3,h4,h5⟩
      ·have t3:((x.toNat:Int) != 32)=false:=by have:=Bj h3;simpa using this
       clear h3;go_wp2_with fail;go_round
       case rel=>exact⟨k+1,by go_num,by omega,Hin.o⟩
       case measure=>simp[intOf];omega
      ·have t3:((x.toNat:Int) != 32)=true:=eR;go_wp2_with fail;go_round
       case rel=>exact⟨k+1,by go_num,by omega,Hin.o⟩
       case measure=>simp[intOf];omega
      have t3:((x.toNat:Int) != 32)=true:=eR;go_wp2_with fail;go_round
      case rel=>exact⟨k+1,by go_num,by omega,Hin.o⟩
      case measure=>simp[intOf];omega
     have Hno:=Aa (show u.all Co=false by
      cases h:u.all Co with
      |false=>rfl
      |true=>exact absurd (List.all_eq_true.1 h _ Hmem.o) ht)
     have h32:x≠32:=by rintro rfl;exact ht rfl
     have t3:((x.toNat:Int) != 32)=true:=by have:=Ap h32;simpa using this
     have h3:x.toNat<48\/(57<x.toNat/\x.toNat<97)\/122<x.toNat:=by
      have a:¬J3 x=true:=fun h=>ht (by simp[Co,h]);have b:¬Bl x=true:=fun h=>ht (by simp[Co,h]);rw[Nw]at a;rw[Dv]at b;omega
     clear ht h32;rcases h3 with h3|⟨h3,h4⟩|h3;all_goals
      go_wp2_with fail;go_ret;exact⟨Em (Cz (by rw[Hf.o,Hc.o,Hd.o,Hfit.o,Hno.o];rfl)),rfl⟩
    ·have Hall:=Aa (show u.all Co=true by
      have:=hin.o;rwa [au aH]at this)
     have hk2:k=u.length:=aH;subst hk2;go_wp2_with fail;go_ret;exact⟨Em (Cz (by rw[Hf.o,Hc.o,Hd.o,Hfit.o,Hall.o];rfl)),rfl⟩
  have t2:((d.toNat:Int) != 39)=true:=by have:=Ap hd39;simpa using this
  have Hd:=Aa (show decide (d=39)=false by simpa using hd39);clear hd39;go_enter func158,ntmps158;go_wp2_with fail;go_ret;exact⟨Em (Cz (by rw[Hf.o,Hd.o];simp)),rfl⟩
 have t1:((c.toNat:Int) != 39)=true:=by have:=Ap hc39;simpa using this
 have Hc:=Aa (show decide (c=39)=false by simpa using hc39);clear hc39;go_enter func158,ntmps158;go_wp2_with fail;go_ret;exact⟨Em (Cz (by rw[Hf.o,Hc.o];simp)),rfl⟩
end
theorem N8{α:Type}{p q:α->Bool}:∀(l:List α) (_:∀x,q x=true->p x=true) {a:α} (_:a∈l) (_:p a=true) (_:q a=false),(l.filter q).length<(l.filter p).length
 |[],_,_,ha,_,_=>by cases ha
 |x::l,h,a,ha,hp,hq=>by
  have hle:∀l:List α,(l.filter q).length<=(l.filter p).length:=by
   intro l;induction l with
   |nil=>exact An _
   |cons y l ih=>
    simp only[List.filter_cons];by_cases h1:q y=true
    ·rw[if_pos h1,if_pos (h y h1)];simpa using ih
    rw[if_neg h1];split
    ·simp;omega
    exact ih
  rcases aA.1 ha with rfl|ha
  ·have:=hle l;simp only[List.filter_cons,hp,hq];simp;omega
  have ih:=N8 l h ha hp hq;simp only[List.filter_cons];by_cases h1:q x=true
  ·rw[if_pos h1,if_pos (h x h1)];simpa using ih
  rw[if_neg h1];split
  ·simp;omega
  exact ih
section
variable {P:Program} {ops:Array Oper} {Q:Exit->Act->World->Prop} {md:Region.Mode}
def Tk(ops:Array Oper)(listed:Array Bool):Nat:=((List.range ops.size).filter fun i=>!listed.getD i false).length
theorem Qa8(hac:∀(i:Nat) (o:Oper),ops[i]?=some o->∀e∈o.after,Region.binds md e=true->e.on<i)(I:(Nat->Bool)->Act->World->Prop)
  (hstep:∀(l:Nat->Bool) a w i o,ops[i]?=some o->l i=false->(∀e∈o.after,Region.binds md e=true->l e.on=true)->I l a w->wpOp P ops Q i (I fun j=>if j=i then true else l j) a w)
  (hdone:∀l a w,(∀i,i<ops.size->l i=true)->I l a w->Q .normal a w):
  ∀(fuel:Nat) (listed:Array Bool) a w,listed.size=ops.size->Tk ops listed<=fuel->I (fun j=>listed.getD j false) a w->wpAny P md ops Q fuel listed a w:=by
 have hall:∀listed:Array Bool,listed.size=ops.size->Region.ready md ops listed=[]->∀i,i<ops.size->listed.getD i false=true:=by
  intro listed hsz hr i;induction i using Nat.strongRecOn with
  |ind i ih=>
   intro hi;cases hb:listed.getD i false with
   |true=>rfl
   |false=>
    have:i∈Region.ready md ops listed:=by
     rw[mem_ready]
     refine ⟨by have h2:i<listed.size:=by omega
                simpa [Array.getD,h2]using hb,ops[i],by simp[hi],fun e he hbd=>?_⟩
     have h1:=hac i ops[i] (by simp[hi]) e he hbd;exact ih e.on h1 aH
    rw[hr]at this;cases this
 intro fuel;induction fuel with
 |zero=>
  intro listed a w hsz hst hI;have hall':∀i,i<ops.size->listed.getD i false=true:=by
   intro i hi;have h0:((List.range ops.size).filter fun i=>!listed.getD i false)=[]:=List.eq_nil_of_length_eq_zero (by unfold Tk at hst;omega);have:=List.filter_eq_nil_iff.1 h0 i (List.mem_range.2 hi);simpa using this
  refine⟨?_,hdone _ a w hall' hI⟩;cases hr:Region.ready md ops listed with
  |nil=>rfl
  |cons j js=>
   have hj:j∈Region.ready md ops listed:=by rw[hr];simp
   obtain⟨h1,o,h2,_⟩:=mem_ready.1 hj;have h3:j<ops.size:=(Array.getElem?_eq_some_iff.1 h2).1;have h4:=hall' j h3;have h5:j<listed.size:=aH;simp[Array.getD,h5]at h1 h4;rw[h1]at h4;cases h4
 |succ fuel ih=>
  intro listed a w hsz hst hI;refine⟨fun hr=>hdone _ a w (hall listed hsz hr) hI,fun i hi=>?_⟩;obtain⟨h1,o,h2,h3⟩:=mem_ready.1 hi;have hlt:i<ops.size:=(Array.getElem?_eq_some_iff.1 h2).1;have hlt2:i<listed.size:=aH;have h1':listed.getD i false=false:=by simpa [Array.getD,hlt2]using h1
  have hset:∀j,(listed.setIfInBounds i true).getD j false=if j=i then true else listed.getD j false:=by
   intro j;by_cases hj:j=i
   ·subst hj;simp[Array.getD,hlt2]
   rw[if_neg hj,getD_set_ne _ (Ne.symm hj)]
  refine wpOp_mono (fun a' w' h=>ih (listed.setIfInBounds i true) a' w' (by simpa using hsz) ?_ ?_) (hstep _ a w i o h2 h1' h3 hI)
  ·have:=N8 (p:=fun i=>!listed.getD i false) (q:=fun j=>!(listed.setIfInBounds i true).getD j false) (List.range ops.size) (fun x hx=>by
    simp only[Bool.not_eq_true']at hx ⊢;rw[hset]at hx;by_cases hxi:x=i
    ·rw[if_pos hxi]at hx;cases hx
    rwa [if_neg hxi]at hx) (List.mem_range.2 hlt) (by simp only[h1',Bool.not_false]) (by simp only[hset,if_true,Bool.not_true])
   unfold Tk at hst ⊢;omega
  have e:(fun j=>(listed.setIfInBounds i true).getD j false)=fun j=>if j=i then true else listed.getD j false:=funext hset
  rw[e];exact h
def Ak(p:Nat->Oper->Prop)(k:Nat)(os:List Oper):Prop:=∀i o,os[i]?=some o->p (k+i) o
theorem Ak.nil{p:Nat->Oper->Prop}{k:Nat}:Ak p k []:=fun i o h=>by simp at h
theorem Ak.cons{p:Nat->Oper->Prop}{k:Nat}{o:Oper}{os:List Oper}(h:p k o)(hs:Ak p (k+1) os):Ak p k (o::os):=fun i o' ho=>by
 cases i with
 |zero=>simp at ho;subst ho;exact h
 |succ i=>simp at ho;have:=hs i o' ho;rwa [Nat.add_assoc,Nat.add_comm 1 i]at this
theorem Qaj{id:Nat}(hm:P.follows .mixedOrders=true)(hac:(List.range ops.size).all (fun i=>((ops[i]?).map fun o=>o.after.all fun e=>!Region.binds .any e || decide (e.on<i)).getD true)=true)
  (mk:(Nat->Value)->Act) (u0:Nat->Value) {a:Act} (ha:a=mk u0) {w:World}
  (φ:Nat->Value->World->Prop) (R:(Nat->Bool)->World->Prop) (Rel:World->World->Prop)
  (hput:Ak (fun i o=>∀u v,(mk u).put o.dst v=mk (fun j=>if j=i then v else u j)) 0 ops.toList)
  (hst:∀w w',Rel w w'->∀i v,φ i v w->φ i v w')
  (h0:R (fun _=>false) w.drew)
  (hstep:Ak (fun i o=>∀(l:Nat->Bool) u w,l i=false->(∀e∈o.after,Region.binds .any e=true->l e.on=true/\φ e.on (u e.on) w)->R l w ->
   ∀K:Act->World->Prop,(∀v w' a',φ i v w'->Rel w w'->R (fun j=>if j=i then true else l j) w'->a'=(mk u).put o.dst v->K a' w') ->
    if Region.wanted o (yielded ops (mk u).tmps)=true then Oper.wp P o (mk u) w K Q else K ((mk u).put o.dst undef) w) 0 ops.toList)
  (hdone:∀(l:Nat->Bool) u w,(∀i,i<ops.size->l i=true)->(∀i,i<ops.size->φ i (u i) w)->R l w->Q .normal (mk u) w):(Code.region id ops true).wp P Q a w:=by
 subst ha;have hst':=fun i v w w' h=>hst w w' h i v;have hac':∀(i:Nat) (o:Oper),ops[i]?=some o->∀e∈o.after,Region.binds .any e=true->e.on<i:=by
  intro i o ho e he hbd;have hlt:i<ops.size:=(Array.getElem?_eq_some_iff.1 ho).1;have h:=List.all_eq_true.1 hac i (List.mem_range.2 hlt);rw[ho]at h;have:=Array.all_eq_true_iff_forall_mem.1 h e he;simpa [hbd]using this
 refine wp_region_any hm ?_
 refine Qa8 hac' (fun l a w=>∃u,a=mk u/\(∀i,l i=true->i<ops.size->φ i (u i) w)/\R l w) ?_ ?_ ops.size _ (mk u0) _ aK (by
  unfold Tk;exact ad (List.length_filter_le _ _) aK) ⟨u0,rfl,?_,?_⟩
 ·rintro l a w i o ho hl hpre ⟨u,rfl,hφ,hR⟩;have ho':ops.toList[i]?=some o:=by simpa using ho
  have hp:=hput i o ho';have hs:=hstep i o ho';rw[am]at hp hs;refine wpOp_step ho fun K' hK'=>?_;refine hs l u w hl (fun e he hb=>⟨hpre e he hb,hφ e.on (hpre e he hb) ?_⟩) hR K' (fun v w' a' hv hrel hR' ha'=>hK' _ _ ⟨_,ha'.trans (hp u v),fun j hj hjs=>?_,hR'⟩)
  ·exact ju
  by_cases hji:j=i
  ·subst hji;simpa using hv
  have hj':l j=true:=gg;simpa [hji]using hst' j _ w w' hrel (hφ j hj' hjs)
 ·rintro l a w hl ⟨u,rfl,hφ,hR⟩;exact jX
 ·intro i hi;simp[Array.getD]at hi
 have e:(fun j=>(Array.replicate ops.size false).getD j false)=fun _=>false:=by
  funext j
  simp[Array.getD]
 rw[e];exact h0
def Bq:List Nat->Nat->(Nat->Value)->List Value->List Value
 |[],_,_,t=>t
 |s::S,i,u,t=>Bq S (i+1) u (t.set s (u i))
def Bt(a:Act)(S:List Nat)(u:Nat->Value):Act:={tmps:=(Bq S 0 u a.tmps.toList).toArray,defers:=a.defers}
theorem Pw:∀(S:List Nat) (i:Nat) (u:Nat->Value) (t:List Value),(∀k s,S[k]?=some s->u (i+k)=t.getD s undef)->Bq S i u t=t
 |[],_,_,_,_=>rfl
 |s::S,i,u,t,h=>by
  have h0:u i=t.getD s undef:=by simpa using h 0 s rfl
  have e:t.set s (u i)=t:=by
   rw[h0];apply List.ext_getElem?;intro j;by_cases hj:s=j
   ·subst hj;by_cases hl:s<t.length
    ·simp[List.getD,hl]
    simp[hl]
   simp[hj]
  rw[Bq,e];exact Pw S (i+1) u t fun k s' hk=>by
   have:=h (k+1) s' (by simpa using hk);rwa [show i+1+k=i+(k+1)by omega]
theorem Ns:∀(S:List Nat) (i:Nat) (u v:Nat->Value) (t:List Value),(∀j,i<=j->u j=v j)->Bq S i u t=Bq S i v t
 |[],_,_,_,_,_=>rfl
 |s::S,i,u,v,t,h=>by
  rw[Bq,Bq,h i (An _)];exact Ns S (i+1) u v _ fun j hj=>h j aH
theorem Tn:∀(S:List Nat) (i:Nat) (u:Nat->Value) (t:List Value) (s:Nat) (v:Value),s∉S->(Bq S i u t).set s v=Bq S i u (t.set s v)
 |[],_,_,_,_,_,_=>rfl
 |s'::S,i,u,t,s,v,h=>by
  have h1:s≠s':=fun e=>h (by simp[e]);rw[Bq,Bq,Tn S (i+1) u _ s v (fun hm=>h (by simp[hm]))];congr 1
  exact(List.set_comm _ _ h1).symm
theorem Qy:∀(S:List Nat) (i:Nat) (u:Nat->Value) (t:List Value) (k s:Nat) (v:Value),S.Nodup->S[k]?=some s->(Bq S i u t).set s v=Bq S i (fun j=>if j=i+k then v else u j) t
 |[],_,_,_,k,s,v,_,h=>by simp at h
 |s'::S,i,u,t,0,s,v,hn,h=>by
  simp at h;subst h;rw[Bq,Bq,Tn S (i+1) u _ s' v (List.nodup_cons.1 hn).1];rw[if_pos aH,List.set_set];exact Ns S (i+1) u _ _ fun j hj=>by rw[if_neg aH]
 |s'::S,i,u,t,k+1,s,v,hn,h=>by
  simp at h;rw[Bq,Bq,Qy S (i+1) u _ k s v (List.nodup_cons.1 hn).2 h,if_neg aH];rw[show i+1+k=i+(k+1)by omega]
theorem Qt:∀(S:List Nat) (i:Nat) (u:Nat->Value) (t:List Value) (k s:Nat) (v:Value),S[k]?=some s->t.length<=s->Bq S i u t=Bq S i (fun j=>if j=i+k then v else u j) t
 |[],_,_,_,k,s,v,h,_=>by simp at h
 |s'::S,i,u,t,0,s,v,h,hl=>by
  simp at h;subst h;rw[Bq,Bq,List.set_eq_of_length_le hl,List.set_eq_of_length_le hl];exact Ns S (i+1) u _ _ fun j hj=>by rw[if_neg aH]
 |s'::S,i,u,t,k+1,s,v,h,hl=>by
  simp at h;rw[Bq,Bq,Qt S (i+1) u _ k s v h fN,if_neg aH];rw[show i+1+k=i+(k+1)by omega]
def Gc(n:Nat):List Oper->List Nat->Bool
 |[],[]=>true
 |o::os,s::S=>(match o.dst with|some d=>d == s|none=>decide (n<=s)) && !S.contains s && Gc n os S
 |_,_=>false
theorem Pv{n:Nat}:∀{os:List Oper} {S:List Nat},Gc n os S=true->S.Nodup/\∀(i:Nat) (o:Oper),os[i]?=some o->∃s,S[i]?=some s/\(o.dst=some s\/(o.dst=none/\n<=s))
 |[],[],_=>⟨List.nodup_nil,fun i o h=>by simp at h⟩
 |[],_::_,h=>by simp[Gc]at h
 |_::_,[],h=>by simp[Gc]at h
 |o::os,s::S,h=>by
  simp only[Gc,aw]at h;obtain⟨⟨h1,h2⟩,h3⟩:=h;obtain⟨hn,hs⟩:=Pv h3;refine⟨List.nodup_cons.2 ⟨by simpa using h2,hn⟩,fun i o' ho=>?_⟩;cases i with
  |zero=>
   simp at ho;subst ho;refine⟨s,rfl,?_⟩;cases hd:o.dst with
   |some d=>rw[hd]at h1;simp at h1;exact .inl (by rw[h1])
   |none=>rw[hd]at h1;simp at h1;exact .inr ⟨rfl,h1⟩
  |succ i=>simpa using hs i o' (by simpa using ho)
theorem Jf{id:Nat}{a:Act}{w:World}(S:List Nat)(hm:P.follows .mixedOrders=true)(hac:(List.range ops.size).all (fun i=>((ops[i]?).map fun o=>o.after.all fun e=>!Region.binds .any e || decide (e.on<i)).getD true)=true)
  (hS:Gc a.tmps.size ops.toList S=true) {mk:(Nat->Value)->Act} (hmk:∀u,Bt a S u=mk u)
  (φ:Nat->Value->World->Prop) (R:(Nat->Bool)->World->Prop) (Rel:World->World->Prop)
  (hst:∀w w',Rel w w'->∀i v,φ i v w->φ i v w')
  (h0:R (fun _=>false) w.drew)
  (hstep:Ak (fun i o=>∀(l:Nat->Bool) u w,l i=false->(∀e∈o.after,Region.binds .any e=true->l e.on=true/\φ e.on (u e.on) w)->R l w ->
   ∀K:Act->World->Prop,(∀v w' a',φ i v w'->Rel w w'->R (fun j=>if j=i then true else l j) w'->a'=(mk u).put o.dst v->K a' w') ->
    if Region.wanted o (yielded ops (mk u).tmps)=true then Oper.wp P o (mk u) w K Q else K ((mk u).put o.dst undef) w) 0 ops.toList)
  (hdone:∀(l:Nat->Bool) u w,(∀i,i<ops.size->l i=true)->(∀i,i<ops.size->φ i (u i) w)->R l w->Q .normal (mk u) w):(Code.region id ops true).wp P Q a w:=by
 obtain rfl:Bt a S=mk:=funext hmk;obtain⟨hn,hs⟩:=Pv hS;refine Qaj hm hac (Bt a S) (fun i=>a.tmps.toList.getD (S.getD i 0) undef) ?_ φ R Rel ?_ hst h0 hstep hdone
 ·exact jE
 intro i o ho u v;rw[am];obtain⟨s,hsi,hd|⟨hd,hb⟩⟩:=hs i o ho
 ·exact jc
 have e:=Qt S 0 u a.tmps.toList i s v hsi (by simpa using hb);rw[am]at e;unfold Bt Act.put;rw[hd];simp only[<-e]
end
end Go.Proofs.YtmmhmlmfhpfgbaaGreatDoor
