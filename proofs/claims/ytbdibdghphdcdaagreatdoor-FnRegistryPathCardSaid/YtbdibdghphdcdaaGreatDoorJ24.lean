/- Texts joined. Conditions: as each theorem names them. -/
import Derived.Deep.CutRange
import Derived.Deep.DeepCutAuto
import Derived.OwnWalk
import Derived.Test.YtbdibdghphdcdaaGreatDoorJ23
import Derived.Test.YtbdibdghphdcdaaGreatDoorJ25
set_option maxRecDepth 100000
set_option maxHeartbeats 32000000
set_option linter.unusedVariables false
set_option linter.unusedSimpArgs false
namespace Go.Proofs.YtbdibdghphdcdaaGreatDoor
open Go.RowKit Go.Proofs.Tryz
section
attribute [local go_sem] Qo7 Qok Qoa Ql9 ByteArray.mk_append_mk
structure E7(g B12 B:Nat)(c0 c1 cf:Value)(W0 W:World)(fs:List Fd)(fv:Value)(q:Nat):Prop where
 rdr:Fg W g q
 grown:W0.grownBy W (some g)
 old:W.rangeAt B12 0 [c0,c1,cf]
 new:W.rangeAt B 0 [c0,c1,fv]
 there:W.there B 0 3
 row:W.ownsRow (B+1) 88 4 fv fs.length (fs.flatMap Mn)
 lt:g<B12/\B12<B/\B<W.heap.size/\W0.heap.size<=B12
theorem Zz{W W':World}{b o:Nat}{cs:List Value}{r:Option Nat}(h:W.rangeAt b o cs)(hb:b<W.heap.size)(hg:W.grownBy W' r)(hne:some b≠r):W'.rangeAt b o cs:=fun j v hv=>
 (World.cell?_of_block (a:=⟨b,o+j,none⟩) (hg.block b hb hne)).trans (h j v hv)
theorem Qll{W W':World}{b o n:Nat}{r:Option Nat}(h:W.there b o n)(hb:b<W.heap.size)(hg:W.grownBy W' r)(hne:some b≠r):W'.there b o n:=fun j hj=>by
 obtain⟨h1,h2⟩:=h j hj;have e:=hg.block b hb hne;refine⟨by rw[World.cell?_of_block (a:=⟨b,o+j,none⟩) e];exact h1,?_⟩;have e2:W'.frozen? ⟨b,o+j,none⟩=W.frozen? ⟨b,o+j,none⟩:=by simp only[World.frozen?,e]
 rw[e2];exact h2
theorem E7.pick{g B12 B:Nat}{c0 c1 cf:Value}{W0 W W':World}{fs:List Fd}{fv:Value}{q q':Nat}(h:E7 g B12 B c0 c1 cf W0 W fs fv q)(hg:W.grownBy W' (some g))(hR:Fg W' g q'):E7 g B12 B c0 c1 cf W0 W' fs fv q':=by
 obtain⟨l1,l2,l3,l4⟩:=h.lt;have hz:=hg.size
 exact⟨hR,Ae h.grown hg,Zz h.old aH hg (fun e=>by injection e with e;omega),Zz h.new aH hg (fun e=>by injection e with e;omega),Qll h.there aH hg (fun e=>by injection e with e;omega),
  h.row.kept hg (.inr fun e=>by have:=(h.row.lt _ e).1;omega),⟨l1,l2,by omega,l4⟩⟩
theorem E7.below{g B12 B:Nat}{c0 c1 cf:Value}{W0 W W':World}{fs:List Fd}{fv:Value}{q:Nat}(h:E7 g B12 B c0 c1 cf W0 W fs fv q)(hb:Below W W W'):E7 g B12 B c0 c1 cf W0 W' fs fv q:=
 h.pick (By hb _) (h.rdr.below hb)
theorem E7.block{g B12 B:Nat}{c0 c1 cf:Value}{W0 W:World}{fs:List Fd}{fv:Value}{q:Nat}(h:E7 g B12 B c0 c1 cf W0 W fs fv q):∀k,fv.ownBlock=some k->B<k/\k<W.heap.size:=fun k hk=>by
 have:=h.row.lt k hk;omega
structure Sm(B16:Nat)(f:Fd)(B:Nat)(fv:Value)(W:World):Prop where
 cells:W.rangeAt B16 0 (Mn f)
 there:W.there B16 0 4
 lt:B<B16/\B16<W.heap.size
 own:fv.ownBlock≠some B16
theorem Sm.grown{B16 B g:Nat}{f:Fd}{fv:Value}{W W':World}(h:Sm B16 f B fv W)(hg:W.grownBy W' (some g))(hgb:g<B):Sm B16 f B fv W':=by
 obtain⟨l1,l2⟩:=h.lt;have hz:=hg.size;exact⟨Cz h.cells hg (fun e=>by injection e with e;omega),Ey h.there hg l2 (fun e=>by injection e with e;omega),⟨l1,by omega⟩,h.own⟩
theorem Sm.below{B16 B:Nat}{f:Fd}{fv:Value}{W W':World}(h:Sm B16 f B fv W)(hb:Below W W W'):Sm B16 f B fv W':=
 ⟨Ah h.cells h.lt.2 hb,Aj h.there h.lt.2 hb,⟨h.lt.1,ac h.lt.2 hb.size⟩,h.own⟩
def J3(o:Option (Nat × Fd))(B:Nat)(fv:Value)(W:World):Prop:=∀b f,o=some (b,f)->Sm b f B fv W
theorem J3.below{o:Option (Nat × Fd)}{B:Nat}{fv:Value}{W W':World}(h:J3 o B fv W)(hb:Below W W W'):J3 o B fv W':=fun b f e=>(h b f e).below hb
theorem J3.grown{o:Option (Nat × Fd)}{B g:Nat}{fv:Value}{W W':World}(h:J3 o B fv W)(hg:W.grownBy W' (some g))(hgb:g<B):J3 o B fv W':=fun b f e=>(h b f e).grown hg hgb
structure Qak(g B12 B:Nat)(c0 c1 cf:Value)(W0 W:World)(fs:List Fd)(fv:Value)(q:Nat)(o:Option (Nat × Fd))(f2:Fd)(v:Value):Prop where
 rdr:Fg W g q
 grown:W0.grownBy W (some g)
 old:W.rangeAt B12 0 [c0,c1,cf]
 new:W.rangeAt B 0 [c0,c1,fv]
 there:W.there B 0 3
 row:W.ownsRow (B+1) 88 4 v (fs.length+1) (fs.flatMap Mn++Mn f2)
 lt:g<B12/\B12<B/\B<W.heap.size/\W0.heap.size<=B12
 box:J3 o B v W
theorem E7.app{g B12 B:Nat}{c0 c1 cf:Value}{W0 W7 w5:World}{fs:List Fd}{fv v5:Value}{q:Nat}{o:Option (Nat × Fd)}{f2:Fd}(h:E7 g B12 B c0 c1 cf W0 W7 fs fv q)(hb:J3 o B fv W7)
  (hown:w5.ownsRow (B+1) 88 4 v5 (fs.length+1) (fs.flatMap Mn++Mn f2)) (hg:W7.grownBy w5 fv.ownBlock) (hw:v5.ownBlock=fv.ownBlock\/∃k,v5.ownBlock=some k/\W7.heap.size<=k):Qak g B12 B c0 c1 cf W0 w5 fs fv q o f2 v5:=by
 obtain⟨l1,l2,l3,l4⟩:=h.lt;have hz:=hg.size;have hfv:=h.block;have ne:∀b,b<=B->some b≠fv.ownBlock:=fun b hbB e=>by have:=(hfv b e.symm).1;omega
 have hgb:Below (B+1) W7 w5:=(Ap _ _).grown hg aH (fun k hk=>by have:=(hfv k hk).1;omega);refine⟨h.rdr.belowg (hgb.mono aH) hz,⟨hg.os.trans h.grown.os,hg.tape.trans h.grown.tape,hg.output.trans h.grown.output,ad h.grown.size hz,fun i hi hne=>(hg.block i (ac hi h.grown.size) (ne i aH)).trans (h.grown.block i hi hne)⟩,Cz h.old hg (ne B12 aH),Cz h.new hg (ne B aH),Ey h.there hg aH (ne B aH),hown,⟨l1,l2,by omega,l4⟩,fun b f e=>?_⟩;obtain⟨b1,b2,b3,b4⟩:=hb b f e;refine⟨Cz b1 hg (fun e=>b4 e.symm),Ey b2 hg b3.2 (fun e=>b4 e.symm),⟨b3.1,by omega⟩,fun e=>?_⟩;rcases hw with hw|⟨k,hk,hk2⟩
 ·exact b4 (hw.symm.trans e)
 rw[hk]at e;exact fJ
theorem Qak.store{g B12 B:Nat}{c0 c1 cf:Value}{W0 W:World}{fs:List Fd}{fv v:Value}{q:Nat}{o:Option (Nat × Fd)}{f2:Fd}(h:Qak g B12 B c0 c1 cf W0 W fs fv q o f2 v):
  E7 g B12 B c0 c1 cf W0 (W.setCell ⟨B,2,none⟩ v) (fs++[f2]) v q/\J3 o B v (W.setCell ⟨B,2,none⟩ v):=by
 obtain⟨l1,l2,l3,l4⟩:=h.lt;have hg:=Jj W ⟨B,2,none⟩ v;refine⟨⟨h.rdr.belowg (((Ap _ _).setCell (show g+1<=B by omega) _)) aK,⟨h.grown.os,h.grown.tape,h.grown.output,by simp;exact h.grown.size,fun i hi hne=>(hg.block i (ac hi h.grown.size) (fun e=>by injection e with e;simp at e;omega)).trans (h.grown.block i hi hne)⟩,?_,?_,ai h.there B 2 [_],?_,⟨l1,l2,by simpa using l3,l4⟩⟩,fun b f e=>?_⟩
 ·exact Cz h.old hg (fun e=>by injection e with e;simp at e;omega)
 ·exact Cr (l2':=[v]) [c0,c1] [fv] [] h.new rfl
 ·rw[ah,List.flatMap_append];have e:[f2].flatMap Mn=Mn f2:=aK;rw[e];exact h.row.kept hg (.inr fun e=>absurd (h.row.lt _ e).1 aK)
 obtain⟨b1,b2,b3,b4⟩:=h.box b f e;exact⟨Cz b1 hg (fun e=>by injection e with e;simp at e;omega),Ey b2 hg b3.2 (fun e=>by injection e with e;simp at e;omega),⟨b3.1,by simpa using b3.2⟩,b4⟩
theorem Qkk{st:UInt8}{f:Fd}(h:Tu st f):H9 st f:=by
 have hg:=Jm h;obtain⟨h1,h2,h3,h4,h5⟩:=h;have hn:=(Dz.1 h3).2.1;by_cases hs:st=69
 ·exact⟨h2,by omega,by rw[(h4 hs).1];decide,by omega,fun _=>(h4 hs).2⟩
 exact⟨h2,by omega,by have:=(h5 hs).1.2.2;omega,by omega,fun h=>absurd h hs⟩
theorem Qk3{st:UInt8}{n:Nat}{nm kd:List UInt8}(hn:n<=200)(h1:nm.length<=100)(h2:kd.length<=100)(h3:kd≠[64]):∃f2:Fd,(.agg #[(n:Int),nm,kd,a6]:Value)=.agg (Mn f2).toArray/\H9 st f2:=by
 have e:Be ⟨[],kd,[]⟩=kd:=by unfold Be B6;rw[if_neg h3];rfl
 refine⟨⟨n,nm,⟨[],kd,[]⟩,[]⟩,?_,hn,h1,by rw[e];exact h2,by simp,fun _=>rfl⟩;show _=Value.agg #[(n:Int),nm,.string ⟨(Be ⟨[],kd,[]⟩).toArray⟩,a6];rw[e]
theorem DK.ne{l:List UInt8}(h:DK l):l≠[64]:=by
 rcases h with⟨sg,b,rfl,_,h2,h3⟩|h
 ·cases sg with
  |nil=>exact(show ∀b∈Q7,b≠[64]by decide) b h3
  |cons c r=>
   intro e;rw[av]at e;injection e with e1 e2;have hb:=(show ∀b∈Q7,b≠[]by decide) b h3;have:=congrArg List.length e2;simp only[ah,List.length_nil]at this;exact hb (List.eq_nil_of_length_eq_zero aH)
 exact(show ∀b∈Sd,b≠[64]by decide) l h
theorem Qdw(b:Bool)(x y:List UInt8)(w:World):
  Calls prog 38 #[.bool b,x,y] w fun e w'=>e=.returned (.string ⟨(if b=true then x else y).toArray⟩)/\Below w w w':=by
 cases b with
 |true=>
  go_enter func38,ntmps38;go_wp2_with fail;exact kD
 |false=>
  go_enter func38,ntmps38;go_wp2_with fail;exact kD
theorem E7.setBox{g B12 B B16:Nat}{c0 c1 cf:Value}{W0 W:World}{fs:List Fd}{fv:Value}{q:Nat}(h:E7 g B12 B c0 c1 cf W0 W fs fv q)(hB:B<B16)(hne:fv.ownBlock≠some B16)(o:Nat)(v:Value):E7 g B12 B c0 c1 cf W0 (W.setCell ⟨B16,o,none⟩ v) fs fv q:=by
 obtain⟨l1,l2,l3,l4⟩:=h.lt;have hg:=Jj W ⟨B16,o,none⟩ v
 exact⟨h.rdr.belowg (((Ap _ _).setCell (show g+1<=B16 by omega) _)) aK,⟨h.grown.os,h.grown.tape,h.grown.output,by simp;exact h.grown.size,fun i hi hne=>(hg.block i (ac hi h.grown.size) (fun e=>by injection e with e;simp at e;omega)).trans (h.grown.block i hi hne)⟩,
  Cz h.old hg (fun e=>by injection e with e;simp at e;omega),Cz h.new hg (fun e=>by injection e with e;simp at e;omega),ai h.there B16 o [_],h.row.kept hg (.inr hne),⟨l1,l2,by simpa using l3,l4⟩⟩
theorem Sm.set{B16 B:Nat}{f:Fd}{fv:Value}{W:World}(h:Sm B16 f B fv W)(l:List UInt8)(hl:l≠[64]):Sm B16 {f with kind:=⟨[],l,[]⟩,given:=[]} B fv ((W.setCell ⟨B16,2,none⟩ l).setCell ⟨B16,3,none⟩ a6):=by
 have ek:Be ⟨[],l,[]⟩=l:=by unfold Be B6;rw[if_neg hl];rfl
 have r1:(W.setCell ⟨B16,2,none⟩ l).rangeAt B16 0 [(f.tag:Int),f.name,l,f.given]:=
  Cr (l2':=[l]) [(f.tag:Int),f.name] [.string ⟨(Be f.kind).toArray⟩] [f.given] h.cells rfl
 have r2:((W.setCell ⟨B16,2,none⟩ l).setCell ⟨B16,3,none⟩ a6).rangeAt B16 0 [(f.tag:Int),f.name,l,a6]:=
  Cr (l2':=[a6]) [(f.tag:Int),f.name,l] [f.given] [] r1 rfl
 refine⟨?_,ai (ai h.there B16 2 [_]) B16 3 [_],⟨h.lt.1,by simpa using h.lt.2⟩,h.own⟩;show World.rangeAt _ _ _ [(f.tag:Int),f.name,.string ⟨(Be ⟨[],l,[]⟩).toArray⟩,a6];rw[ek];exact r2
theorem Qjg{t:Ty}(h8:t.fields.length<=20)(hn:t.name.length<=100)(hs:∀f∈t.fields,H9 t.sort f):(Ye t++[10]).length<=8200:=by
 have h:=Sh 44 400 (t.fields.map (Me t.sort)) (fun p hp=>by obtain⟨f,hf,rfl⟩:=ax.1 hp;exact Qc2 (hs f hf));rw[List.length_map]at h;unfold Ye;simp;omega
theorem Qms{W:World}{B:Nat}{A:Option Addr}{n c:Nat}{fs:List Fd}(h:W.ownsRow B 88 4 (.slice A n c) fs.length (fs.flatMap Mn))(hl:fs.length<=1000):Dv W (.slice A n c) fs:=by
 obtain⟨A9,c9,e9,hr9⟩:=Cd.ownK h aU;exact⟨A9,c9,e9,hl,hr9⟩
def Qm7(w:World)(g p:Nat)(e:Ending)(w':World):Prop:=
 ∃(a b c d:List UInt8) (q:Nat),e=.returned (.tuple #[a,b,c,d])/\a.length<=100000/\b.length<=15/\c.length<=270/\d.length<=15/\q<=p+3000/\Fg w' g q/\w.grownBy w' (some g)
theorem Qcx(g p:Nat)(w:World)(h:Fg w g p)(hp:p<=100000):
  Calls prog 20 #[g] w (Qm7 w g p):=by
 have hgl:=h.lt;have HR:=Aa h;have Hg0:=Aa (World.grownBy.refl w (some g));clear h;go_enter func20,ntmps20;go_wp2_with fail;refine(Pa g p _ HR.o aH).mono ?_;rintro e w1 ⟨s1,q1,rfl,hs1,hq1,hR1,hg1⟩;have HR1:=Aa hR1;have Hg1:=Aa (Ae Hg0.o hg1);have hl1:=hs1.1;have hgl1:=hR1.lt;clear hR1 hg1 hs1;go_wp2_with fail;refine(Qei g q1 s1 _ HR1.o aH aH).mono ?_;rintro e w2 ⟨s2,q2,rfl,hs2,hq2,hR2,hg2⟩;have HR2:=Aa hR2;have Hg2:=Aa (Ae Hg1.o hg2);have hl2:=hs2.len;have hgl2:=hR2.lt;clear hR2 hg2 hs2;have Ho:=Aa (fun W=>Vc s1 W aH);have Hgood:=Aa (fun S (h:Cl s1=some S)=>(Qh.1 h).1);generalize Cl s1=o at *;go_wp2_with fail;refine(Ho.o _).mono ?_;rintro e w3 ⟨hc3,hb3⟩;have HR3:=Aa (HR2.o.below hb3);have Hg3:=Aa (Ae Hg2.o (By hb3 (some g)));have hgl3:=HR3.o.lt;clear hb3 HR HR1 HR2 Hg0 Hg1 Hg2 Ho;cases o with
 |none=>
  obtain⟨A,n,c,rfl⟩:=hc3;go_wp2_with fail;refine(Pa g q2 _ HR3.o aH).mono ?_;rintro e w4 ⟨s4,q4,rfl,hs4,hq4,hR4,hg4⟩;have HR4:=Aa hR4;have Hg4:=Aa (Ae Hg3.o hg4);have hl4:=hs4.1;have hgl4:=hR4.lt;clear hR4 hg4 hs4;go_wp2_with fail;refine aF (v:=.tuple #[s4,s2,s1,s2]) (by simp[results,results20,go_sem]) rfl ?_;exact⟨s4,s2,s1,s2,q4,rfl,by omega,by omega,by omega,by omega,by omega,HR4.o,Hg4.o⟩
 |some S=>
  obtain⟨v,xs,rfl,hxs,hsc⟩:=hc3;have Hok:=Aa (Hgood.o S rfl);have hx8:xs.length<=8:=by have:=Hok.o.1.2.1;rw[<-hxs]at this;simpa [Af]using this
  have Hsc:=Aa hsc;have Hxs:=Aa hxs;obtain⟨A,c,rfl,_⟩:=hsc;clear hxs Hgood;go_wp2_with fail;refine(Bp g q2 8 _ HR3.o aH aH aH).mono ?_;rintro e w4 ⟨x,rfl,hx1,_,hR4,hg4⟩;have HR4:=Aa hR4;have Hg4:=Aa (Ae Hg3.o hg4);have Hsc4:=Aa (Hsc.o.grown HR3.o hg4);have hgl4:=hR4.lt;clear hR4 hg4 hx1 HR3 Hg3 Hsc;by_cases hx0:x=0
  ·subst hx0;go_wp2_with fail;refine(Pa g (q2+1) _ HR4.o aH).mono ?_;rintro e w5 ⟨s5,q5,rfl,hs5,hq5,hR5,hg5⟩;have HR5:=Aa hR5;have Hg5:=Aa (Ae Hg4.o hg5);have hl5:=hs5.1;have hgl5:=hR5.lt;clear hR5 hg5 hs5;go_wp2_with fail;refine aF (v:=.tuple #[s5,s2,s1,s2]) (by simp[results,results20,go_sem]) rfl ?_;exact⟨s5,s2,s1,s2,q5,rfl,by omega,by omega,by omega,by omega,by omega,HR5.o,Hg5.o⟩
  have tx:((x:Int) == 0)=false:=aM;clear hx0;go_wp2_with fail;go_loopw [41,10] (fun i o wr=>∃(m:Nat) (out:List UInt8) (q:Nat),i=.int .i64 m/\o=out/\m<=xs.length/\out.length<=8200*m/\q<=q2+1+300*m/\g<wr.heap.size/\Hid (Fg wr g q)/\Hid (w4.grownBy wr (some g))) (fun i _ _=>xs.length - (intOf i).toNat)
  case atStart=>exact⟨0,[],q2+1,rfl,rfl,ag _,by simp,by omega,hgl4,HR4.o,World.grownBy.refl _ _⟩
  case round=>
   obtain⟨m,out,q,rfl,rfl,hm,hol,hq,hgw,hR,hg⟩:=hrel;have m1:(0:Int)<=(m:Int):=aH;by_cases hlt:m<xs.length
   ·have m2:(m:Int)<(xs.length:Int):=aH;obtain⟨A',c',e',_,hrow,hfds⟩:=Hsc4.o.grown HR4.o hg.o;injection e' with eA _ ec;subst eA ec;have hxm:=ae hlt;have hfx:=hfds _ hxm;have hfx4:Dv w4 xs[m].2 xs[m].1.fields:=by obtain⟨_,_,_,_,_,hf⟩:=Hsc4.o;exact hf _ hxm
    have Hto:=Aa (Hok.o.1.1 xs[m].1 (by rw[<-Hxs.o];exact ap (f:=(·.1)) hxm));obtain⟨b1,o1,rfl,hb1l,x0,x1,x2⟩:=Gl.at_ hrow hlt;clear hrow hfds hxm;generalize xs[m]=tx at *;obtain⟨t,fv⟩:=tx;simp only at x0 x1 x2 Hto hfx hfx4;have hf8:t.fields.length<=8:=Hto.o.2.2.2.1;have hfx':=hfx;obtain⟨A4,c4,rfl,_,hrow4⟩:=hfx;have Hfx:=Aa hfx4;have X0:=Aa x0;have X1:=Aa x1;have X2:=Aa x2;clear hfx' hfx4 hrow4;have htl:=t.sort.toNat_lt;have hz12:∃B12,B12=wr.heap.size:=⟨_,rfl⟩
    obtain⟨B12,hB12⟩:=hz12;go_wp2_with fail;have HO0:Hid (E7 g B12 (B12+1) (.int .u8 (t.sort.toNat:Int)) t.name (.slice A4 t.fields.length c4) w4 ((wr.alloc (.cells #[.int .u8 (t.sort.toNat:Int),t.name,.slice A4 t.fields.length c4] 86)).alloc (.cells #[.int .u8 (t.sort.toNat:Int),t.name,.slice none 0 0] 86)) [] (.slice none 0 0) q):=by
     have ha:Below wr wr (wr.alloc (.cells #[.int .u8 (t.sort.toNat:Int),t.name,.slice A4 t.fields.length c4] 86)):=(Ap _ _).alloc (An _) _;have hb:Below (wr.heap.size+1) (wr.alloc (.cells #[.int .u8 (t.sort.toNat:Int),t.name,.slice A4 t.fields.length c4] 86)) ((wr.alloc (.cells #[.int .u8 (t.sort.toNat:Int),t.name,.slice A4 t.fields.length c4] 86)).alloc (.cells #[.int .u8 (t.sort.toNat:Int),t.name,.slice none 0 0] 86)):=((Ap _ _).alloc aK _)
     have e1:=Bk (wr.alloc (.cells #[.int .u8 (t.sort.toNat:Int),t.name,.slice A4 t.fields.length c4] 86)) [.int .u8 (t.sort.toNat:Int),t.name,.slice none 0 0] 86;have e2:=Bu (wr.alloc (.cells #[.int .u8 (t.sort.toNat:Int),t.name,.slice A4 t.fields.length c4] 86)) [.int .u8 (t.sort.toNat:Int),t.name,.slice none 0 0] 86;rw[World.size_alloc]at e1 e2;rw[hB12];exact⟨(hR.o.below ha).below (hb.mono aK),Ae hg.o (By (ha.trans (hb.mono aH)) _),Ah (Bk wr [.int .u8 (t.sort.toNat:Int),t.name,.slice A4 t.fields.length c4] 86) aH hb,e1,e2,World.ownsRow_nil _ _ _ _,⟨hgw,by omega,by simp,by have:=hg.o.size;omega⟩⟩
    rw[<-hB12];generalize (wr.alloc (.cells #[.int .u8 (t.sort.toNat:Int),t.name,.slice A4 t.fields.length c4] 86)).alloc (.cells #[.int .u8 (t.sort.toNat:Int),t.name,.slice none 0 0] 86)=W5 at HO0 ⊢;have hg12:g<B12:=aH;obtain⟨wo,rfl⟩:∃wo:World,wo=wr:=⟨_,rfl⟩
    clear hB12 X0 X1 X2 x0 x1 x2;go_loopw [53,14] (fun i la wr=>∃(j last q':Nat) (fs:List Fd) (fv:Value),i=.int .i64 j/\la=.int .i64 last/\j<=t.fields.length/\last<=200/\fs.length<=2*j/\q'<=q+25*j/\Hid (∀f∈fs,H9 t.sort f)/\Hid (E7 g B12 (B12+1) (.int .u8 (t.sort.toNat:Int)) t.name (.slice A4 t.fields.length c4) w4 wr fs fv q')) (fun i _ _=>t.fields.length - (intOf i).toNat)
    case atStart=>exact⟨0,0,q,[],_,rfl,rfl,ag _,by omega,by simp,by omega,(fun f hf=>by cases hf),HO0.o⟩
    case round=>
     obtain⟨j,last,q',fs,fv',rfl,rfl,hj,hla,hfl,hq',hsh,hO⟩:=hrel;have j1:(0:Int)<=(j:Int):=aH;have b12l:B12<wr.heap.size:=by have:=hO.o.lt;omega
     have b13l:B12+1<wr.heap.size:=hO.o.lt.2.2.1;have y0:wr.cell? ⟨B12,0,none⟩=some (.int .u8 (t.sort.toNat:Int)):=by simpa using Ab hO.o.old 0 rfl
     have y2:wr.cell? ⟨B12,2,none⟩=some (.slice A4 t.fields.length c4):=by simpa using Ab hO.o.old 2 rfl
     obtain⟨A3,n3,c3,e3⟩:=Ek hO.o.row;subst e3;by_cases hjl:j<t.fields.length
     ·have j2:(j:Int)<(t.fields.length:Int):=aH;obtain⟨A5,c5,e5,_,hrow5⟩:=Hfx.o.grown HR4.o hO.o.grown;injection e5 with eA5 _ ec5;subst eA5 ec5;obtain⟨bb,off2,rfl,hbb,g0,g1,g2,g3⟩:=Dv.at_ hrow5 hjl;have Hgm:=Aa (Qkk (Hto.o.2.2.1.1 _ (ae hjl)));have hft1:=(Hto.o.2.2.1.1 _ (ae hjl)).1;have hft2:=(Hto.o.2.2.1.1 _ (ae hjl)).2.1;clear hrow5;generalize t.fields[j]=f at *;have n12:¬(B12=wr.heap.size):=aH;obtain⟨B16,hB16⟩:∃B16,B16=wr.heap.size:=⟨_,rfl⟩
      have hba:Below wr wr (wr.alloc (.cells #[(f.tag:Int),.string ⟨f.name.toArray⟩,.string ⟨(Be f.kind).toArray⟩,.string ⟨f.given.toArray⟩] 88)):=(Ap _ _).alloc (An _) _;have HO6:=Aa (hO.o.below hba)
      have HF6:=Aa (show Sm B16 f (B12+1) (.slice A3 n3 c3) (wr.alloc (.cells #[(f.tag:Int),.string ⟨f.name.toArray⟩,.string ⟨(Be f.kind).toArray⟩,.string ⟨f.given.toArray⟩] 88))from by
       rw[hB16];exact⟨Bk wr (Mn f) 88,Bu wr (Mn f) 88,⟨b13l,by simp⟩,fun e=>by have:=hO.o.block _ e;omega⟩)
      have Hsh:=Aa hsh.o;go_upto_region 15 with fail
      rw[<-hB16];generalize (wr.alloc (.cells #[(f.tag:Int),.string ⟨f.name.toArray⟩,.string ⟨(Be f.kind).toArray⟩,.string ⟨f.given.toArray⟩] 88))=W6 at HO6 HF6 ⊢;clear hba hB16 y0 y2 g0 g1 g2 g3;have y0:W6.cell? ⟨B12,0,none⟩=some (.int .u8 (t.sort.toNat:Int)):=by simpa using Ab HO6.o.old 0 rfl
      go_cut [53,65]from 53 to 114 (fun ix b wx=>∃(bq:Bool) (q3:Nat),ix=(j:Int)/\b=.bool bq/\q3<=q'+1/\Hid (E7 g B12 (B12+1) (.int .u8 (t.sort.toNat:Int)) t.name (.slice (some ⟨bb,off2,none⟩) t.fields.length c4) w4 wx fs (.slice A3 n3 c3) q3)/\Hid (Sm B16 f (B12+1) (.slice A3 n3 c3) wx))
      case first=>
       by_cases h82:t.sort=82
       ·have t82:((t.sort.toNat:Int) == 82)=true:=gJ;clear h82;go_wp2_with fail;refine(Bp g q' 4 _ HO6.o.rdr aH aH aH).mono ?_;rintro e w7 ⟨x,rfl,hx1,_,hR7,hg7⟩;have HO7:=Aa (HO6.o.pick hg7 hR7);have HF7:=Aa (HF6.o.grown hg7 aH);clear hR7 hg7 y0;go_wp2_with fail;go_meet
        exact⟨_,q'+1,rfl,rfl,by omega,HO7.o,HF7.o⟩
       ·have t82:((t.sort.toNat:Int) == 82)=false:=gI;clear h82;go_wp2_with fail;go_meet
        exact⟨false,q',rfl,rfl,by omega,HO6.o,HF6.o⟩
      case rest=>
       obtain⟨w7,rfl⟩:∃w7:World,w7=wc:=⟨_,rfl⟩
       obtain⟨bq,q3,rfl,rfl,hq3,HO7,HF7⟩:=hcut;clear y0 HO6 HF6;cases bq with
       |true=>
        go_wp2_with fail;go_roundw
        case rel=>exact⟨j+1,last,q3,fs,_,by go_num,rfl,by omega,hla,by omega,by omega,Hsh.o,HO7.o⟩
        case measure=>simp[intOf];omega
       |false=>
        have y0:w7.cell? ⟨B16,0,none⟩=(f.tag:Int):=by simpa using Ab HF7.o.cells 0 rfl
        go_upto_region 16 with fail
        go_cut [53,75]from 53 to 114 (fun ix b wx=>∃(bi:Bool) (q4:Nat),ix=(j:Int)/\b=.bool bi/\q4<=q3+1/\Hid (bi=true->last+1<f.tag)/\Hid (E7 g B12 (B12+1) (.int .u8 (t.sort.toNat:Int)) t.name (.slice (some ⟨bb,off2,none⟩) t.fields.length c4) w4 wx fs (.slice A3 n3 c3) q4)/\Hid (Sm B16 f (B12+1) (.slice A3 n3 c3) wx))
        case first=>
         go_wp2_with fail;refine(Bp g q3 6 _ HO7.o.rdr aH aH aH).mono ?_;rintro e w8 ⟨x,rfl,hx1,_,hR8,hg8⟩;have HO8:=Aa (HO7.o.pick hg8 hR8);have HF8:=Aa (HF7.o.grown hg8 aH);clear hR8 hg8 y0 hx1;have y0:w8.cell? ⟨B16,0,none⟩=(f.tag:Int):=by simpa using Ab HF8.o.cells 0 rfl
         by_cases hx0:x=0
         ·subst hx0;go_wp2_with fail;go_meet
          exact⟨decide ((last:Int)+1<(f.tag:Int)),q3+1,rfl,rfl,by omega,fun h=>(by have:=of_decide_eq_true h;omega),HO8.o,HF8.o⟩
         ·have tx:((x:Int) == 0)=false:=aM;clear hx0;go_wp2_with fail;go_meet
          exact⟨false,q3+1,rfl,rfl,by omega,(fun h=>Bool.noConfusion h),HO8.o,HF8.o⟩
        case rest=>
         obtain⟨w8,rfl⟩:∃w8:World,w8=wc:=⟨_,rfl⟩
         obtain⟨bi,q4,rfl,rfl,hq4,Hbi,HO8,HF8⟩:=hcut;clear y0 HO7 HF7;go_upto_if 75 with fail
         go_cut [53]from 53 to 114 (fun ix wx=>∃(fs2:List Fd) (A:Option Addr) (n c' q5:Nat),ix=(j:Int)/\q5<=q4+1/\fs2.length<=fs.length+1/\Hid (∀f∈fs2,H9 t.sort f)/\Hid (E7 g B12 (B12+1) (.int .u8 (t.sort.toNat:Int)) t.name (.slice (some ⟨bb,off2,none⟩) t.fields.length c4) w4 wx fs2 (.slice A n c') q5)/\Hid (Sm B16 f (B12+1) (.slice A n c') wx))
         case first=>
          cases bi with
          |false=>
           go_wp2_with fail;go_meet
           exact⟨fs,A3,n3,c3,q4,rfl,by omega,by omega,Hsh.o,HO8.o,HF8.o⟩
          |true=>
           have hlt2:=Hbi.o rfl;go_upto_region 17 with fail
           have HO:=HO8;have HF:=@Aa (J3 (some (B16,f)) (B12+1) (.slice A3 n3 c3) w8) (fun b f' e=>(by injection e with e;injection e with e1 e2;subst e1 e2;exact HF8.o));have hob:Hid (∃ob,ob=some (B16,f)):=⟨_,rfl⟩
           obtain⟨ob,hob⟩:=hob.o;rw[<-hob]at HF;have Hob:=Aa hob;obtain⟨qr,hqr⟩:∃qr,qr=q4:=⟨_,rfl⟩
           rw[<-hqr]at HO;have hcv:=fun W g0=>Mo W g0 1 (Di (101+j));have hu8:IntKind.u8.wrap (101+(j:Int))=((101+j:Nat):Int):=hM;have Hne:=Aa hlt2;have w2i:IntKind.i64.wrap (101+(j:Int))=101+(j:Int):=IntWalk.i64_in _ aH;have w1i:IntKind.i64.wrap ((f.tag:Int) - 1)=(f.tag:Int) - 1:=IntWalk.i64_in _ aH;clear hlt2 Hbi hob HO8 HF8;refine Jo [76,77,78,79,80,81,82,83,84,85,86,87,88,89,90,91,92,93,999]
            (fun ix v W=>match ix with|0=>v=.pointer (some ⟨B12+1,2,none⟩)|1=>v=.slice A3 n3 c3|2=>v=.pointer (some ⟨B16,0,none⟩)|3=>v=(f.tag:Int)|4=>v=.int .i64 ((f.tag:Int) - 1)|5=>v=(j:Int)|6=>v=.int .i64 (101+(j:Int))|7=>v=.int .u8 ((101+j:Nat):Int)|8=>∃b,v=.slice (some ⟨b,0,none⟩) 1 1|9=>v=.string ⟨([Di (101+j)]:List UInt8).toArray⟩|10=>v=.pointer (some ⟨B12,0,none⟩)|11=>v=.int .u8 (t.sort.toNat:Int)|12=>v=.bool (decide (t.sort=69))|13=>v=.string ⟨(if decide (t.sort=69)=true then[]else[110]:List UInt8).toArray⟩|14=>∃f2:Fd,v=.agg (Mn f2).toArray/\H9 t.sort f2|15=>∃b,v=.slice (some ⟨b,0,none⟩) 1 1|16=>∃A n c,v=.slice A n c|17=>v=.pointer (some ⟨B12+1,2,none⟩)|18=>v=undef|_=>True)
            (fun L U W=>((L 8=true->L 15=false->∃g8,U 8=.slice (some ⟨g8,0,none⟩) 1 1/\g8<W.heap.size/\W.cell? ⟨g8,0,none⟩=some (.int .u8 ((101+j:Nat):Int)))/\W.rangeAt B12 0 [.int .u8 (t.sort.toNat:Int),t.name,.slice (some ⟨bb,off2,none⟩) t.fields.length c4]/\(∀b f,ob=some (b,f)->W.rangeAt b 0 (Mn f))/\(L 18=false->W.rangeAt (B12+1) 0 [.int .u8 (t.sort.toNat:Int),t.name,(.slice A3 n3 c3)]))/\(L 15=false->∃q5,q5<=qr+1/\E7 g B12 (B12+1) (.int .u8 (t.sort.toNat:Int)) t.name (.slice (some ⟨bb,off2,none⟩) t.fields.length c4) w4 W fs (.slice A3 n3 c3) q5/\J3 ob (B12+1) (.slice A3 n3 c3) W)/\(L 15=true->L 16=false->∃W7 f2 q5,q5<=qr+1/\W=W7.alloc (.cells (Mn f2).toArray 88)/\U 15=.slice (some ⟨W7.heap.size,0,none⟩) 1 1/\E7 g B12 (B12+1) (.int .u8 (t.sort.toNat:Int)) t.name (.slice (some ⟨bb,off2,none⟩) t.fields.length c4) w4 W7 fs (.slice A3 n3 c3) q5/\J3 ob (B12+1) (.slice A3 n3 c3) W7/\H9 t.sort f2)/\(L 16=true->L 18=false->L 15=true/\∃f2 q5,q5<=qr+1/\Qak g B12 (B12+1) (.int .u8 (t.sort.toNat:Int)) t.name (.slice (some ⟨bb,off2,none⟩) t.fields.length c4) w4 W fs (.slice A3 n3 c3) q5 ob f2 (U 16)/\H9 t.sort f2)/\(L 18=true->∃f2 fv2 q5,q5<=qr+1/\E7 g B12 (B12+1) (.int .u8 (t.sort.toNat:Int)) t.name (.slice (some ⟨bb,off2,none⟩) t.fields.length c4) w4 W (fs++[f2]) fv2 q5/\J3 ob (B12+1) fv2 W/\H9 t.sort f2)) (⟨⟨fun h=>Bool.noConfusion h,HO.o.old,fun b f e=>(HF.o b f e).cells,fun _=>HO.o.new⟩,fun _=>⟨qr,by omega,HO.o.below (Ap _ _).drew,HF.o.below (Ap _ _).drew⟩,fun h=>Bool.noConfusion h,fun h=>Bool.noConfusion h,fun h=>Bool.noConfusion h⟩) ?_ ?_
           ·repeat (first|exact Ak.nil|(refine Ak.cons ?_ ?_;rotate_left))
            all_goals
             rintro L U W hL hpre HR Hdep K hK;obtain⟨⟨Rx,Ra,Rb,Rc⟩,R1,R2,R3,R4⟩:=HR.o;have a12:W.cell? ⟨B12,0,none⟩=some (.int .u8 (t.sort.toNat:Int)):=by simpa using Ab Ra 0 rfl
             have a16:W.cell? ⟨B16,0,none⟩=(f.tag:Int):=by simpa using Ab (Rb B16 f Hob.o) 0 rfl
             first|(simp[Region.binds]at hpre;done)|simp[Region.binds]at hpre|clear hpre
            ·exact iM
            ·have h16:L 16=false:=Az Hdep.o 16 1 rfl hL;have h18:L 18=false:=Az Hdep.o 18 16 rfl h16;have a13:W.cell? ⟨B12+1,2,none⟩=some (.slice A3 n3 c3):=by simpa using Ab (Rc h18) 2 rfl
             exact lH
            iterate 2
             ·exact iM
            ·go_simp;exact hK (.int .i64 ((f.tag:Int) - 1)) _ _ rfl Ac HR.o bF
            ·exact iM
            ·go_simp;exact hK (.int .i64 (101+(j:Int))) _ _ rfl Ac HR.o (by simp[Act.put,hpre,w2i])
            ·go_simp;exact hK (.int .u8 ((101+j:Nat):Int)) _ _ rfl Ac HR.o (by simp[Act.put,hpre,hu8])
            ·have h9:L 9=false:=Az Hdep.o 9 8 rfl hL;have h14:L 14=false:=Az Hdep.o 14 9 rfl h9;have h15:L 15=false:=Az Hdep.o 15 14 rfl h14;have h16:L 16=false:=Az Hdep.o 16 15 rfl h15;have h18:L 18=false:=Az Hdep.o 18 16 rfl h16;obtain⟨q5,hq5,o5,b5⟩:=R1 h15;have hba:Below W W (W.alloc (.cells #[.int .u8 ((101+j:Nat):Int)] 5)):=(Ap _ _).alloc (An _) _;go_simp;exact hK _ _ _ ⟨W.heap.size,rfl⟩ Ac ⟨⟨fun _ _=>⟨W.heap.size,by simp,by simp,by simp⟩,Ah Ra cM hba,fun b f e=>Ah (Rb b f e) (b5 b f e).lt.2 hba,fun h=>Ah (Rc h18) o5.lt.2.2.1 hba⟩,fun _=>⟨q5,hq5,o5.below hba,b5.below hba⟩,fun h=>absurd (h15.symm.trans aQ) aJ,fun h=>absurd (h16.symm.trans aQ) aJ,fun h=>absurd (h18.symm.trans aQ) aJ⟩ aI
            ·obtain⟨l8,_⟩:=hpre;have h14:L 14=false:=Az Hdep.o 14 9 rfl hL;have h15:L 15=false:=Az Hdep.o 15 14 rfl h14;obtain⟨g8,u8',hg8,hc8⟩:=Rx l8 h15;have hcv:=Mo W g8 1 (Di (101+j)) (by rw[Dm aH];exact hc8);go_simp;exact hK _ _ _ rfl Ac HR.o (by simp[Act.put,u8'])
            iterate 2
             ·exact iM
            ·exact iU
            ·have h14:L 14=false:=Az Hdep.o 14 13 rfl hL;have h15:L 15=false:=Az Hdep.o 15 14 rfl h14;have h16:L 16=false:=Az Hdep.o 16 15 rfl h15;have h18:L 18=false:=Az Hdep.o 18 16 rfl h16;obtain⟨q5,hq5,o5,b5⟩:=R1 h15;obtain⟨_,u12⟩:=hpre;go_simp;refine(Qdw (decide (t.sort=69)) [] [110] W).mono ?_;rintro e w' ⟨rfl,hba⟩;exact hK _ _ _ rfl Ac ⟨⟨fun h8 h9=>by obtain⟨g8,q1,q2,q3⟩:=Rx (by simpa using h8) (by simpa using h9);exact⟨g8,by simpa using q1,ac q2 hba.size,(hba.cell (p:=⟨g8,0,none⟩) q2).trans q3⟩,Ah Ra cM hba,fun b f e=>Ah (Rb b f e) (b5 b f e).lt.2 hba,fun h=>Ah (Rc h18) o5.lt.2.2.1 hba⟩,fun _=>⟨q5,hq5,o5.below hba,b5.below hba⟩,fun h=>absurd (h15.symm.trans aQ) aJ,fun h=>absurd (h16.symm.trans aQ) aJ,fun h=>absurd (h18.symm.trans aQ) aJ⟩ (by simp[Act.put,u12])
            ·obtain⟨⟨_,u4⟩,⟨_,u9⟩,_,u13⟩:=hpre;obtain⟨f2,ef2,hs2⟩:=Qk3 (st:=t.sort) (n:=f.tag - 1) (nm:=[Di (101+j)]) (kd:=if decide (t.sort=69)=true then[]else[110]) aH aK (by split<;>simp) (by split<;>decide);rw[show ((f.tag - 1:Nat):Int)=(f.tag:Int) - 1 by have:=Hne.o;omega]at ef2;go_simp;exact hK _ _ _ ⟨f2,ef2,hs2⟩ Ac HR.o (by simp[Act.put,u4,u9,u13])
            ·obtain⟨lb,f2,ub,hs2⟩:=hpre;obtain⟨q5,hq5,o5,b5⟩:=R1 hL;have h1:L 16=false:=Az Hdep.o 16 15 rfl hL;have h2:L 18=false:=Az Hdep.o 18 16 rfl h1;exact lK
            ·obtain⟨lv,uv⟩:L 1=true/\U 1=(.slice A3 n3 c3):=by
              exact lL
             obtain⟨ls,bs,us⟩:L 15=true/\∃b,U 15=.slice (some ⟨b,0,none⟩) 1 1:=by
              exact lM
             have h2:L 18=false:=Az Hdep.o 18 16 rfl hL;obtain⟨W7,f2,q5,hq5,rfl,u7,o5,b5,hs2⟩:=R2 ls hL;rw[if_pos cx];refine Fl W7 (.tmp 77) (.tmp 91) 84 rfl (B12+1+1) 88 sf0 4 56 underlying84 Qdi rfl aJ (Mn f2) rfl (fun y hy=>Yz [f2] y dK) (.slice A3 n3 c3) fs.length (fs.flatMap Mn) uv u7 o5.row aU aH cM ?_;exact lN
            ·exact iM
            ·obtain⟨lp,la,A5',n5',c5',ua⟩:(∃h:True,True)/\L 16=true/\∃A n c,U 16=.slice A n c:=by
              exact lO
             obtain⟨ls,f2,q5,hq5,oa,hs2⟩:=R3 la hL;have up:U 17=.pointer (some ⟨B12+1,2,none⟩):=by
              exact lP
             rw[ua]at oa;have hcell:(W.cell? ⟨B12+1,2,none⟩)=some (.slice A3 n3 c3):=by simpa using Ab oa.new 2 rfl
             have hfz:W.frozen? ⟨B12+1,2,none⟩=false:=by simpa using(oa.there 2 aJ).2
             exact lQ
           rintro L U W hL hφ hR;clear hφ;have h18:=hL 18 aJ;obtain⟨_,_,_,_,R4⟩:=hR;obtain⟨f2,fv2,q5,hq5,os,bs,hs2⟩:=R4 h18;obtain⟨A9,n9,c9,rfl⟩:=Ek os.row;have Hob':=Hob.o;clear hL R4 HO HF;go_wp2_with fail;go_meet
           exact⟨fs++[f2],A9,n9,c9,q5,rfl,by omega,by simp,fun f' hf'=>by rcases af.1 hf' with h|h;exact Hsh.o f' h;simp at h;subst h;exact hs2,os,bs B16 f Hob'⟩
         case rest=>
          obtain⟨w9,rfl⟩:∃w9:World,w9=wc:=⟨_,rfl⟩
          obtain⟨fs2,A,n,c',q5,rfl,hq5,hfl2,Hsh2,HO9,HF9⟩:=hcut;clear HO8 HF8;go_upto_region 18 with fail
          go_cut [53,101]from 53 to 114 (fun ix b wx=>∃(bq:Bool) (q6:Nat),ix=(j:Int)/\b=.bool bq/\q6<=q5+1/\Hid (bq=true->t.sort≠69)/\Hid (E7 g B12 (B12+1) (.int .u8 (t.sort.toNat:Int)) t.name (.slice (some ⟨bb,off2,none⟩) t.fields.length c4) w4 wx fs2 (.slice A n c') q6)/\Hid (Sm B16 f (B12+1) (.slice A n c') wx))
          case first=>
           go_wp2_with fail;refine(Bp g q5 12 _ HO9.o.rdr aH aH aH).mono ?_;rintro e w10 ⟨x,rfl,hx1,_,hR10,hg10⟩;have HO10:=Aa (HO9.o.pick hg10 hR10);have HF10:=Aa (HF9.o.grown hg10 aH);clear hR10 hg10 hx1;have y0:w10.cell? ⟨B12,0,none⟩=some (.int .u8 (t.sort.toNat:Int)):=by simpa using Ab HO10.o.old 0 rfl
           by_cases hx0:x=0
           ·subst hx0;by_cases h69:t.sort=69
            ·have t69:((t.sort.toNat:Int) != 69)=false:=cJ;clear h69;go_wp2_with fail;go_meet
             exact lR
            have t69:((t.sort.toNat:Int) != 69)=true:=cI;have H69:=Aa h69;clear h69;go_wp2_with fail;go_meet
            exact⟨true,q5+1,rfl,rfl,by omega,(fun _=>H69.o),HO10.o,HF10.o⟩
           ·have tx:((x:Int) == 0)=false:=aM;clear hx0;go_wp2_with fail;go_meet
            exact lR
          case rest=>
           obtain⟨w10,rfl⟩:∃w10:World,w10=wc:=⟨_,rfl⟩
           obtain⟨bq,q6,rfl,rfl,hq6,Hbq,HO10,HF10⟩:=hcut;clear HO9 HF9;go_upto_if 101 with fail
           go_cut [53]from 53 to 114 (fun ix wx=>∃(f3:Fd) (q7:Nat),ix=(j:Int)/\q7<=q6+8/\Hid (H9 t.sort f3)/\Hid (E7 g B12 (B12+1) (.int .u8 (t.sort.toNat:Int)) t.name (.slice (some ⟨bb,off2,none⟩) t.fields.length c4) w4 wx fs2 (.slice A n c') q7)/\Hid (Sm B16 f3 (B12+1) (.slice A n c') wx))
           case first=>
            cases bq with
            |false=>
             go_wp2_with fail;go_meet
             exact⟨f,q6,rfl,by omega,Hgm.o,HO10.o,HF10.o⟩
            |true=>
             have H69:=Aa (Hbq.o rfl);clear Hbq;go_wp2_with fail;refine(N8 g q6 _ HO10.o.rdr aH).mono ?_;rintro e w11 ⟨l,q7,rfl,hl,hq7,hR11,hg11⟩;have HO11:=Aa (HO10.o.pick hg11 hR11);have HF11:=Aa (HF10.o.grown hg11 aH);have Hl:=Aa hl;clear hR11 hg11 hl;have z2:w11.cell? ⟨B16,2,none⟩=some (.string ⟨(Be f.kind).toArray⟩):=by simpa using Ab HF11.o.cells 2 rfl
             have z3:w11.cell? ⟨B16,3,none⟩=some (.string ⟨f.given.toArray⟩):=by simpa using Ab HF11.o.cells 3 rfl
             have zf2:w11.frozen? ⟨B16,2,none⟩=false:=by simpa using(HF11.o.there 2 aJ).2
             have zf3:w11.frozen? ⟨B16,3,none⟩=false:=by simpa using(HF11.o.there 3 aJ).2
             go_wp2_with fail;go_meet
             exact⟨{f with kind:=⟨[],l,[]⟩,given:=[]},q7,rfl,by omega,⟨Hgm.o.1,Hgm.o.2.1,by show (Be ⟨[],l,[]⟩).length<=100;unfold Be B6;rw[if_neg Hl.o.ne];have:=Hl.o.len;show ([]++l).length<=100;simp;omega,by simp,fun h=>rfl⟩,(HO11.o.setBox HF11.o.lt.1 HF11.o.own 2 _).setBox HF11.o.lt.1 HF11.o.own 3 _,HF11.o.set l Hl.o.ne⟩
           case rest=>
            obtain⟨w12,rfl⟩:∃w12:World,w12=wc:=⟨_,rfl⟩
            obtain⟨f3,q7,rfl,hq7,Hsh3,HO12,HF12⟩:=hcut;clear HO10 HF10 Hbq;have m13:w12.cell? ⟨B12+1,2,none⟩=some (.slice A n c'):=by simpa using Ab HO12.o.new 2 rfl
            have z0:w12.cell? ⟨B16,0,none⟩=(f3.tag:Int):=by simpa using Ab HF12.o.cells 0 rfl
            have z1:w12.cell? ⟨B16,1,none⟩=f3.name:=by simpa using Ab HF12.o.cells 1 rfl
            have z2:w12.cell? ⟨B16,2,none⟩=some (.string ⟨(Be f3.kind).toArray⟩):=by simpa using Ab HF12.o.cells 2 rfl
            have z3:w12.cell? ⟨B16,3,none⟩=f3.given:=by simpa using Ab HF12.o.cells 3 rfl
            have l13:B12+1<w12.heap.size:=HO12.o.lt.2.2.1;have l16:B16<w12.heap.size:=HF12.o.lt.2;have n16:¬(B16=B12+1):=by have:=HF12.o.lt.1;omega
            have n13:¬(B12+1=B16):=aH;have hft3:f3.tag<=200:=Hsh3.o.1;have HFO:=@Aa (J3 (some (B16,f3)) (B12+1) (.slice A n c') w12) (fun b f' e=>(by injection e with e;injection e with e1 e2;subst e1 e2;exact HF12.o));go_wp2_with (at_builtin;go_loud (refine Mw w12 rfl (.tmp 107) (.tmp 109) 84 rfl (B12+1+1) 88 sf0 4 56 underlying84 Qdi rfl aJ [(f3.tag:Int),f3.name,.string ⟨(Be f3.kind).toArray⟩,f3.given] rfl (by intro y hy;simp at hy;rcases hy with rfl|rfl|rfl|rfl<;>rfl) (.slice A n c') fs2.length (fs2.flatMap Mn) rfl rfl HO12.o.row aU aH aH ?_);intro v5 w5 hown5 hg5 hwh5;obtain⟨A5,n5,c5,e5⟩:=Ek hown5;subst e5;have HA:=Aa (E7.app (f2:=f3) HO12.o HFO.o hown5 hg5 hwh5);have f5:w5.frozen? ⟨B12+1,2,none⟩=false:=(by simpa using(HA.o.there 2 aJ).2);have p5:w5.cell? ⟨B12+1,2,none⟩=some (.slice A n c'):=(by simpa using Ab HA.o.new 2 rfl);have p6:w5.cell? ⟨B16,0,none⟩=(f3.tag:Int):=(by simpa using Ab (HA.o.box B16 f3 rfl).cells 0 rfl);clear hown5 hg5 hwh5)
            go_roundw
            case rel=>exact⟨j+1,f3.tag,q7,fs2++[f3],_,by go_num,rfl,by omega,hft3,by rw[ah];simp;omega,by omega,(fun f' hf'=>by rcases af.1 hf' with h|h;exact Hsh2.o f' h;simp at h;subst h;exact Hsh3.o),HA.o.store.1⟩
            case measure=>simp[intOf];omega
     ·obtain rfl:j=t.fields.length:=aH;clear y0 y2;have hf17:fs.length<=16:=aH;have Hsh:=Aa hsh.o;have HO6:=Aa hO.o;obtain⟨w6,hw6⟩:∃w6:World,w6=wr:=⟨_,rfl⟩
      rw[<-hw6]at HO6 ⊢;clear hw6 hO hsh b12l b13l;go_upto_region 24 with fail
      go_cut [41,121]from 41 to 141 (fun ix b wx=>∃(bq:Bool) (q8:Nat),ix=(m:Int)/\b=.bool bq/\q8<=q'+1/\Hid (bq=true->last<190)/\Hid (E7 g B12 (B12+1) (.int .u8 (t.sort.toNat:Int)) t.name (.slice A4 t.fields.length c4) w4 wx fs (.slice A3 n3 c3) q8))
      case first=>
       go_wp2_with fail;refine(Bp g q' 3 _ HO6.o.rdr aH aH aH).mono ?_;rintro e w8 ⟨x,rfl,hx1,_,hR8,hg8⟩;have HO8:=Aa (HO6.o.pick hg8 hR8);clear hR8 hg8 hx1;by_cases hx0:x=0
       ·subst hx0;go_wp2_with fail;go_meet
        exact⟨decide ((last:Int)<190),q'+1,rfl,rfl,by omega,fun h=>(by have:=of_decide_eq_true h;omega),HO8.o⟩
       ·have tx:((x:Int) == 0)=false:=aM;clear hx0;go_wp2_with fail;go_meet
        exact⟨false,q'+1,rfl,rfl,by omega,(fun h=>Bool.noConfusion h),HO8.o⟩
      case rest=>
       obtain⟨w8,rfl⟩:∃w8:World,w8=wc:=⟨_,rfl⟩
       obtain⟨bq,q8,rfl,rfl,hq8,Hbq,HO8⟩:=hcut;clear HO6;go_upto_if 121 with fail
       go_cut [41]from 41 to 141 (fun ix wx=>∃(fs2:List Fd) (A:Option Addr) (n c' q9:Nat),ix=(m:Int)/\q9<=q8+1/\fs2.length<=fs.length+1/\Hid (∀f∈fs2,H9 t.sort f)/\Hid (E7 g B12 (B12+1) (.int .u8 (t.sort.toNat:Int)) t.name (.slice A4 t.fields.length c4) w4 wx fs2 (.slice A n c') q9))
       case first=>
        cases bq with
        |false=>
         go_wp2_with fail;go_meet
         exact⟨fs,A3,n3,c3,q8,rfl,by omega,by omega,Hsh.o,HO8.o⟩
        |true=>
         have hlt2:=Hbq.o rfl;go_upto_region 25 with fail
         have HO:=HO8;obtain⟨ob,hob⟩:∃ob:Option (Nat × Fd),ob=none:=⟨_,rfl⟩
         have HF:=@Aa (J3 ob (B12+1) (.slice A3 n3 c3) w8) (fun b f' e=>by rw[hob]at e;cases e);obtain⟨qr,hqr⟩:∃qr,qr=q8:=⟨_,rfl⟩
         rw[<-hqr]at HO;have w1i:IntKind.i64.wrap ((last:Int)+1)=(last:Int)+1:=IntWalk.i64_in _ aH;clear Hbq hob HO8;refine Jo [122,123,124,125,126,127,128,129,130,131,132,133,134,135,136,999]
          (fun ix v W=>match ix with|0=>v=.pointer (some ⟨B12+1,2,none⟩)|1=>v=.slice A3 n3 c3|2=>v=(last:Int)|3=>v=.int .i64 ((last:Int)+1)|4=>v=g|5=>∃x:Nat,v=(x:Int)/\x<3|6=>∃x:Nat,v=.int .i64 ((last:Int)+1+(x:Int))/\x<3|7=>v=.pointer (some ⟨B12,0,none⟩)|8=>v=.int .u8 (t.sort.toNat:Int)|9=>v=.bool (decide (t.sort=69))|10=>v=.string ⟨(if decide (t.sort=69)=true then[]else[116]:List UInt8).toArray⟩|11=>∃f2:Fd,v=.agg (Mn f2).toArray/\H9 t.sort f2|12=>∃b,v=.slice (some ⟨b,0,none⟩) 1 1|13=>∃A n c,v=.slice A n c|14=>v=.pointer (some ⟨B12+1,2,none⟩)|15=>v=undef|_=>True)
          (fun L U W=>((L 5=false->L 12=false->∃q5,q5<=qr/\E7 g B12 (B12+1) (.int .u8 (t.sort.toNat:Int)) t.name (.slice A4 t.fields.length c4) w4 W fs (.slice A3 n3 c3) q5/\J3 ob (B12+1) (.slice A3 n3 c3) W)/\W.rangeAt B12 0 [.int .u8 (t.sort.toNat:Int),t.name,.slice A4 t.fields.length c4]/\(∀b f,ob=some (b,f)->W.rangeAt b 0 (Mn f))/\(L 15=false->W.rangeAt (B12+1) 0 [.int .u8 (t.sort.toNat:Int),t.name,(.slice A3 n3 c3)]))/\(L 12=false->∃q5,q5<=qr+1/\E7 g B12 (B12+1) (.int .u8 (t.sort.toNat:Int)) t.name (.slice A4 t.fields.length c4) w4 W fs (.slice A3 n3 c3) q5/\J3 ob (B12+1) (.slice A3 n3 c3) W)/\(L 12=true->L 13=false->∃W7 f2 q5,q5<=qr+1/\W=W7.alloc (.cells (Mn f2).toArray 88)/\U 12=.slice (some ⟨W7.heap.size,0,none⟩) 1 1/\E7 g B12 (B12+1) (.int .u8 (t.sort.toNat:Int)) t.name (.slice A4 t.fields.length c4) w4 W7 fs (.slice A3 n3 c3) q5/\J3 ob (B12+1) (.slice A3 n3 c3) W7/\H9 t.sort f2)/\(L 13=true->L 15=false->L 12=true/\∃f2 q5,q5<=qr+1/\Qak g B12 (B12+1) (.int .u8 (t.sort.toNat:Int)) t.name (.slice A4 t.fields.length c4) w4 W fs (.slice A3 n3 c3) q5 ob f2 (U 13)/\H9 t.sort f2)/\(L 15=true->∃f2 fv2 q5,q5<=qr+1/\E7 g B12 (B12+1) (.int .u8 (t.sort.toNat:Int)) t.name (.slice A4 t.fields.length c4) w4 W (fs++[f2]) fv2 q5/\J3 ob (B12+1) fv2 W/\H9 t.sort f2)) (⟨⟨fun _ _=>⟨qr,An _,HO.o.below (Ap _ _).drew,HF.o.below (Ap _ _).drew⟩,HO.o.old,fun b f e=>(HF.o b f e).cells,fun _=>HO.o.new⟩,fun _=>⟨qr,by omega,HO.o.below (Ap _ _).drew,HF.o.below (Ap _ _).drew⟩,fun h=>Bool.noConfusion h,fun h=>Bool.noConfusion h,fun h=>Bool.noConfusion h⟩) ?_ ?_
         ·repeat (first|exact Ak.nil|(refine Ak.cons ?_ ?_;rotate_left))
          all_goals
           rintro L U W hL hpre HR Hdep K hK;obtain⟨⟨Rx,Ra,Rb,Rc⟩,R1,R2,R3,R4⟩:=HR.o;have a12:W.cell? ⟨B12,0,none⟩=some (.int .u8 (t.sort.toNat:Int)):=by simpa using Ab Ra 0 rfl
           first|(simp[Region.binds]at hpre;done)|simp[Region.binds]at hpre|clear hpre
          ·exact iL
          ·have h16:L 13=false:=Az Hdep.o 13 1 rfl hL;have h18:L 15=false:=Az Hdep.o 15 13 rfl h16;have a13:W.cell? ⟨B12+1,2,none⟩=some (.slice A3 n3 c3):=by simpa using Ab (Rc h18) 2 rfl
           exact lH
          ·exact iL
          ·go_simp;exact hK (.int .i64 ((last:Int)+1)) _ _ rfl Ac HR.o bF
          ·exact iL
          ·have h6:L 6=false:=Az Hdep.o 6 5 rfl hL;have h11:L 11=false:=Az Hdep.o 11 6 rfl h6;have h12:L 12=false:=Az Hdep.o 12 11 rfl h11;have h13:L 13=false:=Az Hdep.o 13 12 rfl h12;have h15:L 15=false:=Az Hdep.o 15 13 rfl h13;obtain⟨⟨q5,hq5,o5,b5⟩,h5⟩:(∃q5,q5<=qr/\E7 g B12 (B12+1) (.int .u8 (t.sort.toNat:Int)) t.name (.slice A4 t.fields.length c4) w4 W fs (.slice A3 n3 c3) q5/\J3 ob (B12+1) (.slice A3 n3 c3) W)/\True:=⟨Rx hL h12,Ac⟩
           go_simp;refine(Bp g q5 3 W o5.rdr aH aH aH).mono ?_;rintro e w' ⟨x,rfl,hx1,_,hRx,hgx⟩;have o6:=o5.pick hgx hRx;have b6:=b5.grown hgx cM;exact hK _ _ _ ⟨x,rfl,by omega⟩ Ac ⟨⟨fun h=>by simp at h,o6.old,fun b f e=>(b6 b f e).cells,fun _=>o6.new⟩,fun _=>⟨q5+1,by omega,o6,b6⟩,fun h=>absurd (h12.symm.trans aQ) aJ,fun h=>absurd (h13.symm.trans aQ) aJ,fun h=>absurd (h15.symm.trans aQ) aJ⟩ aI
          ·obtain⟨⟨_,u3⟩,_,x,u5,hx⟩:=hpre;have w2i:IntKind.i64.wrap ((last:Int)+1+(x:Int))=(last:Int)+1+(x:Int):=IntWalk.i64_in _ aH;go_simp;exact hK (.int .i64 ((last:Int)+1+(x:Int))) _ _ ⟨x,rfl,hx⟩ Ac HR.o (by simp[Act.put,u3,u5,w2i])
          iterate 2
           ·exact iL
          ·exact iU
          ·have h11:L 11=false:=Az Hdep.o 11 10 rfl hL;have h12:L 12=false:=Az Hdep.o 12 11 rfl h11;have h13:L 13=false:=Az Hdep.o 13 12 rfl h12;have h15:L 15=false:=Az Hdep.o 15 13 rfl h13;have u9:U 9=.bool (decide (t.sort=69)):=by
            first|exact hpre.2|exact hpre.1.2|exact hpre.2.2|exact hpre.2.1.2
           go_simp;refine(Qdw (decide (t.sort=69)) [] [116] W).mono ?_;rintro e w' ⟨rfl,hba⟩;obtain⟨q5,hq5,o5,b5⟩:=R1 h12;exact hK _ _ _ rfl Ac ⟨⟨fun h5 h12'=>by obtain⟨q6,e6,o6,b6⟩:=Rx (by simpa using h5) (by simpa using h12');exact⟨q6,e6,o6.below hba,b6.below hba⟩,Ah Ra cM hba,fun b f e=>Ah (Rb b f e) (b5 b f e).lt.2 hba,fun h=>Ah (Rc h15) o5.lt.2.2.1 hba⟩,fun _=>⟨q5,hq5,o5.below hba,b5.below hba⟩,fun h=>absurd (h12.symm.trans aQ) aJ,fun h=>absurd (h13.symm.trans aQ) aJ,fun h=>absurd (h15.symm.trans aQ) aJ⟩ (by simp[Act.put,hpre,u9])
          ·obtain⟨⟨_,x,u6,hx⟩,_,u10⟩:=hpre;obtain⟨f2,ef2,hs2⟩:=Qk3 (st:=t.sort) (n:=last+1+x) (nm:=[122,122]) (kd:=if decide (t.sort=69)=true then[]else[116]) aH aK (by split<;>simp) (by split<;>decide);rw[show ((last+1+x:Nat):Int)=(last:Int)+1+(x:Int)by omega]at ef2;go_simp;exact hK _ _ _ ⟨f2,ef2,hs2⟩ Ac HR.o (by simp[Act.put,u6,u10])
          ·obtain⟨lb,f2,ub,hs2⟩:=hpre;obtain⟨q5,hq5,o5,b5⟩:=R1 hL;have h1:L 13=false:=Az Hdep.o 13 12 rfl hL;have h2:L 15=false:=Az Hdep.o 15 13 rfl h1;exact lK
          ·obtain⟨lv,uv⟩:L 1=true/\U 1=(.slice A3 n3 c3):=by
            exact lL
           obtain⟨ls,bs,us⟩:L 12=true/\∃b,U 12=.slice (some ⟨b,0,none⟩) 1 1:=by
            exact lM
           have h2:L 15=false:=Az Hdep.o 15 13 rfl hL;obtain⟨W7,f2,q5,hq5,rfl,u7,o5,b5,hs2⟩:=R2 ls hL;rw[if_pos cx];refine Fl W7 (.tmp 123) (.tmp 134) 84 rfl (B12+1+1) 88 sf0 4 56 underlying84 Qdi rfl aJ (Mn f2) rfl (fun y hy=>Yz [f2] y dK) (.slice A3 n3 c3) fs.length (fs.flatMap Mn) uv u7 o5.row aU aH cM ?_;exact lN
          ·exact iL
          ·obtain⟨lp,la,A5',n5',c5',ua⟩:(∃h:True,True)/\L 13=true/\∃A n c,U 13=.slice A n c:=by
            exact lO
           obtain⟨ls,f2,q5,hq5,oa,hs2⟩:=R3 la hL;have up:U 14=.pointer (some ⟨B12+1,2,none⟩):=by
            exact lP
           rw[ua]at oa;have hcell:(W.cell? ⟨B12+1,2,none⟩)=some (.slice A3 n3 c3):=by simpa using Ab oa.new 2 rfl
           have hfz:W.frozen? ⟨B12+1,2,none⟩=false:=by simpa using(oa.there 2 aJ).2
           exact lQ
         rintro L U W hL hφ hR;clear hφ;have h15:=hL 15 aJ;obtain⟨_,_,_,_,R4⟩:=hR;obtain⟨f2,fv2,q5,hq5,os,bs,hs2⟩:=R4 h15;obtain⟨A9,n9,c9,rfl⟩:=Ek os.row;clear hL R4 HO HF;go_wp2_with fail;go_meet
         exact⟨fs++[f2],A9,n9,c9,q5,rfl,by omega,by simp,fun f' hf'=>by rcases af.1 hf' with h|h;exact Hsh.o f' h;simp at h;subst h;exact hs2,os⟩
       case rest=>
        obtain⟨w9,rfl⟩:∃w9:World,w9=wc:=⟨_,rfl⟩
        obtain⟨fs2,A,n,c',q9,rfl,hq9,hfl2,Hsh2,HO9⟩:=hcut;clear HO8 Hbq;have p0:w9.cell? ⟨B12+1,0,none⟩=some (.int .u8 (t.sort.toNat:Int)):=by simpa using Ab HO9.o.new 0 rfl
        have p1:w9.cell? ⟨B12+1,1,none⟩=t.name:=by simpa using Ab HO9.o.new 1 rfl
        have p2:w9.cell? ⟨B12+1,2,none⟩=some (.slice A n c'):=by simpa using Ab HO9.o.new 2 rfl
        have Hsf:=@Aa (Dv w9 (.slice A n c') fs2) (Qms HO9.o.row aH);have hnm:=(Dz.1 Hto.o.2.1).2.1;have Hout:=Aa (fun W (hs:Dv W (.slice A n c') fs2)=>Qgo ⟨t.sort,t.name,fs2⟩ (.slice A n c') W hs (show fs2.length<=20 by omega) (show t.name.length<=100 by omega) Hsh2.o);have htb:=Qjg (t:=⟨t.sort,t.name,fs2⟩) (show fs2.length<=20 by omega) (show t.name.length<=100 by omega) Hsh2.o;simp only[Mj]at Hout;generalize Ye ⟨t.sort,t.name,fs2⟩++[10]=tb at Hout htb;go_wp2_with fail;refine(Hout.o _ Hsf.o).mono ?_;rintro e w10 ⟨rfl,hb10⟩;have HO10:=Aa (HO9.o.below hb10);have hgl10:=HO10.o.rdr.lt;clear hb10 p0 p1 p2;go_wp2_with fail;go_roundw
        case rel=>exact⟨m+1,out++tb,q9,by go_num,rfl,by omega,by rw[ah];omega,by omega,hgl10,HO10.o.rdr,HO10.o.grown⟩
        case measure=>simp[intOf];omega
   ·obtain rfl:m=xs.length:=aH;have HRf:=Aa hR.o;have Hgf:=Aa (Ae Hg4.o hg.o);go_wp2_with fail;refine aF (v:=.tuple #[out,s2,s1,s2]) (by simp[results,results20,go_sem]) rfl ?_;exact⟨out,s2,s1,s2,q,rfl,by omega,by omega,by omega,by omega,by omega,HRf.o,Hgf.o⟩
abbrev Fw:=List UInt8 × List UInt8
def Mq(v:Fw):List Value:=[v.1,v.2]
theorem Pr(v:Fw):(Mq v).length=2:=rfl
def Vk(w:World)(A:Option Addr)(xs:List Value):Prop:=0<xs.length->∃b off,A=some ⟨b,off,none⟩/\b<w.heap.size/\∀j u,xs[j]?=some u->w.cell? ⟨b,off+j,none⟩=some u
theorem Vk.below{w w':World}{A:Option Addr}{xs:List Value}(h:Vk w A xs)(hb:Below w w w'):Vk w' A xs:=fun hn=>by
 obtain⟨b,off,e,hlt,hc⟩:=h hn;exact ke
def Gz(w:World)(v:Value)(vs:List Fw):Prop:=∃A c,v=.slice A vs.length c/\vs.length<=c/\vs.length<=maxLen/\Vk w A (vs.flatMap Mq)
theorem Gz.below{w w':World}{v:Value}{vs:List Fw}(h:Gz w v vs)(hb:Below w w w'):Gz w' v vs:=by
 obtain⟨A,c,e,hc,hm,hr⟩:=h;exact⟨A,c,e,hc,hm,hr.below hb⟩
theorem Gz.at_{w:World}{A:Option Addr}{vs:List Fw}(hr:Vk w A (vs.flatMap Mq)){i:Nat}(hi:i<vs.length):
  ∃b off,A=some ⟨b,off,none⟩/\b<w.heap.size/\w.cell? ⟨b,off+i*2,none⟩=some (.string ⟨vs[i].1.toArray⟩)/\w.cell? ⟨b,off+i*2+1,none⟩=some (.string ⟨vs[i].2.toArray⟩):=by
 obtain⟨b,off,e,hlt,hc⟩:=hr (by rw[J1 Pr];omega);refine⟨b,off,e,hlt,?_,?_⟩
 ·have:=hc (i*2+0) (.string ⟨vs[i].1.toArray⟩) (by rw[N0 Pr vs i 0 hi aJ];rfl);simpa using this
 have:=hc (i*2+1) (.string ⟨vs[i].2.toArray⟩) (by rw[N0 Pr vs i 1 hi aJ];rfl);simpa [Nat.add_assoc]using this
theorem Tryz.infoVer:(prog.info? 31).map (fun i=>(i.zero,i.size,i.bytes))=some (some (.agg #[a6,a6]),2,32):=aL
theorem Qkb(vs:List Fw):∀y∈vs.flatMap Mq,y.oneCell'=true:=by
 intro y hy;obtain⟨v,_,hv⟩:=List.mem_flatMap.1 hy;simp[Mq]at hv;rcases hv with rfl|rfl<;>rfl
def Ql2(lo:Nat)(w:World)(v:Value)(vs:List Fw):Prop:=∃g,v=.slice (some ⟨g,0,none⟩) vs.length vs.length/\lo<=g/\g<w.heap.size/\w.rangeAt g 0 (vs.flatMap Mq)
theorem Ql2.row{lo:Nat}{w:World}{v:Value}{vs:List Fw}(h:Ql2 lo w v vs)(hn:vs.length<=1048576):Gz w v vs:=by
 obtain⟨g,e,_,hg,hr⟩:=h;exact⟨_,_,e,An _,by unfold maxLen;omega,fun _=>⟨g,0,rfl,hg,hr⟩⟩
theorem Ql2.set{lo:Nat}{w:World}{v:Value}{vs:List Fw}(h:Ql2 lo w v vs){b:Nat}(hb:b<lo)(u:Value):Ql2 lo (w.setCell ⟨b,0,none⟩ u) v vs:=by
 obtain⟨g,e,h1,hg,hr⟩:=h;exact⟨g,e,h1,by simpa using hg,ak hr b 0 [u] (.inl aH)⟩
def rdV(v u:Fw):Bool:=Ef (At v.1 v.2) (At u.1 u.2)
def Cf(vs:List Fw)(i:Nat):Fw:=vs.getD i ([],[])
theorem Eg{vs:List Fw}{i:Nat}(h:i<vs.length):Cf vs i=vs[i]:=by simp[Cf,h]
def N4(vs:List Fw):Bool:=decide (vs.length<=5) && (List.range vs.length).all fun i=>(List.range (i+1)).all fun k=>rdV (Cf vs i) (Cf vs k)
theorem M6{vs:List Fw}:N4 vs=true↔vs.length<=5/\∀i,i<vs.length->∀k,k<=i->rdV (Cf vs i) (Cf vs k)=true:=by
 unfold N4;simp only[aw,decide_eq_true_eq,List.all_eq_true,List.mem_range];exact⟨fun⟨h1,h2⟩=>⟨h1,fun i hi k hk=>h2 i hi k aH⟩,fun⟨h1,h2⟩=>⟨h1,fun i hi k hk=>h2 i hi k aH⟩⟩
theorem Qaa{vs:List Fw}{i k:Nat}(hi:i<vs.length)(hk:k<=i)(h:rdV (Cf vs i) (Cf vs k)=false):N4 vs=false:=by
 rw[Bool.eq_false_iff];intro h2;rw[(M6.1 h2).2 i hi k hk]at h;cases h
theorem Qko{v:Fw}(h:(At v.1 v.2).isSome=true):rdV v v=true:=by
 unfold rdV;cases hb:At v.1 v.2 with
 |none=>rw[hb]at h;cases h
 |some x=>
  obtain⟨S,k⟩:=x;obtain⟨h1,_,_,_,_,h2⟩:=Cs hb;exact Qd2 h1 h2
theorem Qnw{v:Fw}(u:Fw)(h:(At v.1 v.2).isSome=false):rdV v u=false:=by
 unfold rdV;cases hb:At v.1 v.2 with
 |none=>rfl
 |some x=>rw[hb]at h;cases h
theorem Qcq(v u:Fw)(w:World)(h1:v.1.length<=4000000)(h2:v.2.length<=4000000)(h3:u.1.length<=4000000)(h4:u.2.length<=4000000):
  Calls prog 41 #[.agg #[v.1,v.2],.agg #[u.1,u.2]] w fun e w'=>e=.returned (.bool (rdV v u))/\Below w w w':=by
 have He:=Aa (fun W=>Qdy v.1 v.2 u.1 u.2 W h1 h2 h3 h4);have Hrd:Hid (rdV v u=Ef (At v.1 v.2) (At u.1 u.2)):=rfl;generalize Ef (At v.1 v.2) (At u.1 u.2)=r at *;go_enter func41,ntmps41;go_wp2_with fail;refine(He.o _).mono ?_;rintro e w1 ⟨rfl,hb1⟩;go_wp2_with fail;go_ret;exact⟨by rw[Hrd.o];rfl,(((Ap w.heap.size w).alloc (An _) _).alloc aK _).trans (hb1.mono aM)⟩
theorem Zs(v:Value)(vs:List Fw)(w:World)(h:Gz w v vs)(hn:vs.length<=1048577)(hl:∀x∈vs,x.1.length<=4000000/\x.2.length<=4000000):
  Calls prog 21 #[.agg #[v]] w fun e w'=>e=.returned (.bool (N4 vs))/\Below w w w':=by
 obtain⟨A,c,rfl,hcap,hvm,hr⟩:=h;have Hr:=Aa hr;have Hl:=Aa hl;clear hr hl;go_enter func21,ntmps21;go_wp2_with fail;go_loopw [3] (fun i wr=>∃k:Nat,i=.int .i64 k/\k<=vs.length/\Hid (∀i',i'<k->∀k',k'<=i'->rdV (Cf vs i') (Cf vs k')=true)/\Hid (Below w w wr)/\w.heap.size<wr.heap.size/\wr.cell? (w,0)=some (.slice A vs.length c)) (fun i _=>vs.length - (intOf i).toNat)
 case atStart=>exact⟨0,rfl,ag _,fun i' hi'=>by omega,(Ap _ _).alloc (An _) _,by simp,by simp⟩
 case round=>
  obtain⟨i,rfl,hi,hin,hb,hsz,hc0⟩:=hrel;have i1:(0:Int)<=(i:Int):=aH;by_cases hlt:i<vs.length
  ·have i2:(i:Int)<(vs.length:Int):=aH;obtain⟨wo,hwo⟩:∃wo:World,wo=wr:=⟨_,rfl⟩
   have Hsz:=Aa hsz;have Hc0:=Aa hc0;go_wp2_with fail;subst hwo;go_loopw [4] (fun q wr=>∃k:Nat,q=.int .i64 k/\k<=i+1/\Hid (∀k',k'<k->rdV (Cf vs i) (Cf vs k')=true)/\Hid (Below w w wr)/\w.heap.size<wr.heap.size/\wr.cell? (w,0)=some (.slice A vs.length c)) (fun q _=>i+1 - (intOf q).toNat)
   case atStart=>exact⟨0,rfl,ag _,fun k' hk'=>by omega,hb.o,Hsz.o,Hc0.o⟩
   case round=>
    clear hc0 hsz;obtain⟨k,rfl,hk,hkin,hb',hsz',hc0'⟩:=hrel;have k1:(0:Int)<=(k:Int):=aH;by_cases hkl:k<=i
    ·have k2:(k:Int)<=(i:Int):=aH;have k3:(k:Int)<(vs.length:Int):=aH;obtain⟨b1,o1,rfl,hbl1,x0,x1⟩:=Gz.at_ (Hr.o.below hb'.out) hlt;obtain⟨b1',o1',e1,_,y0,y1⟩:=Gz.at_ (Hr.o.below hb'.out) (show k<vs.length by omega);obtain⟨rfl,rfl⟩:b1=b1'/\o1=o1':=fq;have hxl:=Hl.o _ (ae hlt);have hyl:=Hl.o _ (ae (show k<vs.length by omega));have hrd:rdV (Cf vs i) (Cf vs k)=rdV vs[i] (vs[k]' aH):=by rw[Eg hlt,Eg aH]
     generalize vs[i]=x at x0 x1 hxl hrd;generalize vs[k]'(show k<vs.length by omega)=y at y0 y1 hyl hrd;have Hrd:=Aa (fun W=>Qcq x y W hxl.1 hxl.2 hyl.1 hyl.2);have Hrx:=Aa hrd;generalize rdV x y=r at Hrd Hrx;have C0:=Aa x0;have C1:=Aa x1;have D0:=Aa y0;have D1:=Aa y1;have L1:=Aa hbl1;have Lw:=Aa hsz';have T0:=Aa hc0';clear x0 x1 y0 y1 hbl1 hxl hyl hrd e1 hc0';go_wp2_with fail;refine Jo [17,18,19,20,21,22,23,24,25,26,27,28]
      (fun ix v W=>match ix with|0=>v=w.heap.size|1=>v=.slice (some ⟨b1,o1,none⟩) vs.length c|2=>v=.int .i64 i|3=>v=.pointer (some ⟨b1,o1+i*2,none⟩)|4=>v=.agg #[x.1,x.2]|5=>v=w.heap.size|6=>v=.slice (some ⟨b1,o1,none⟩) vs.length c|7=>v=.int .i64 k|8=>v=.pointer (some ⟨b1,o1+k*2,none⟩)|9=>v=.agg #[y.1,y.2]|10=>v=.bool r|11=>v=.bool (!r)|_=>True)
      (fun L U W=>Below wr wr W) ((Ap _ _).drew) ?_ ?_
     ·repeat (first|exact Ak.nil|(refine Ak.cons ?_ ?_;rotate_left))
      all_goals
       rintro L U W hL hpre HR Hdep K hK;have hB:=HR.o;have t0:W.cell? (w,0)=some (.slice (some ⟨b1,o1,none⟩) vs.length c):=(hB.cell (p:=⟨w.heap.size,0,none⟩) Lw.o).trans T0.o;have a0:W.cell? ⟨b1,o1+i*2,none⟩=x.1:=(hB.cell (p:=⟨b1,o1+i*2,none⟩) L1.o).trans C0.o;have a1:W.cell? ⟨b1,o1+i*2+1,none⟩=x.2:=(hB.cell (p:=⟨b1,o1+i*2+1,none⟩) L1.o).trans C1.o;have d0:W.cell? ⟨b1,o1+k*2,none⟩=y.1:=(hB.cell (p:=⟨b1,o1+k*2,none⟩) L1.o).trans D0.o;have d1:W.cell? ⟨b1,o1+k*2+1,none⟩=y.2:=(hB.cell (p:=⟨b1,o1+k*2+1,none⟩) L1.o).trans D1.o;first|(simp[Region.binds]at hpre;done)|simp[Region.binds]at hpre|clear hpre
      iterate 10
       ·exact ip
      ·go_simp;refine(Hrd.o W).mono ?_;rintro e w5 ⟨rfl,hb5⟩;exact lx
      ·exact ip
     rintro L U W hL hφ hR;have e11:U 11=.bool (!r):=hφ 11 aJ;simp only[e11];clear hφ;have Hbw:=Aa (hb'.out.trans (hR.mono hb'.out.size));have hz2:w.heap.size<W.heap.size:=ac hsz' hR.size;have T2:=Aa ((hR.cell (p:=⟨w.heap.size,0,none⟩) Lw.o).trans T0.o);clear hL hR;cases r with
     |false=>
      have Hno:=Aa (Qaa hlt hkl Hrx.o);go_wp2_with fail;go_ret;exact⟨by rw[Hno.o];rfl,Hbw.o⟩
     |true=>
      have Hall:=Aa (show ∀k',k'<k+1->rdV (Cf vs i) (Cf vs k')=true from fun k' hk'=>by
       rcases aG k' k with h|h
       ·exact hkin.o k' h
       obtain rfl:k'=k:=aH;exact Hrx.o)
      go_wp2_with fail;go_roundw
      case rel=>exact⟨k+1,by go_num,by omega,Hall.o,Hbw.o,hz2,T2.o⟩
      case measure=>simp[intOf];omega
    ·have k2:¬(k:Int)<=(i:Int):=aH
     have Hall:=Aa (show ∀i',i'<i+1->∀k',k'<=i'->rdV (Cf vs i') (Cf vs k')=true from fun i' hi' k' hk'=>by
      rcases aG i' i with h|h
      ·exact hin.o i' h k' hk'
      obtain rfl:i'=i:=aH;exact hkin.o k' aH)
     have Hc':=Aa hc0';clear hc0';go_wp2_with fail;go_roundw
     case rel=>exact⟨i+1,by go_num,by omega,Hall.o,hb'.out,hsz',Hc'.out⟩
     case measure=>simp[intOf];omega
  ·obtain rfl:i=vs.length:=aH
   have Hfin:=Aa (show N4 vs=decide (vs.length<=5)from by
    by_cases h5:vs.length<=5
    ·rw[aD h5];exact M6.2 ⟨h5,hin.o⟩
    rw[aC h5,Bool.eq_false_iff];exact fun h=>h5 (M6.1 h).1)
   by_cases h5:vs.length<=5
   ·have h5i:(vs.length:Int)<=5:=aH;have Hf2:=Aa (Hfin.o.trans (aD h5));go_wp2_with fail;go_ret;exact⟨by rw[Hf2.o];rfl,hb.o⟩
   have h5i:¬(vs.length:Int)<=5:=aH;have Hf2:=Aa (Hfin.o.trans (aC h5));go_wp2_with fail;go_ret;exact⟨by rw[Hf2.o];rfl,hb.o⟩
structure J5(g Br Bg:Nat)(W0 W:World)(vs:List Fw)(v r:Value)(q:Nat):Prop where
 rdr:Fg W g q
 grown:W0.grownBy W (some g)
 res:W.cell? (Br,0)=some (.slice none 0 0)
 resf:W.frozen? (Br,0)=false
 reg:W.cell? (Bg,0)=some r
 regf:W.frozen? (Bg,0)=false
 row:W.ownsRow (Br+1) 31 2 v vs.length (vs.flatMap Mq)
 off:v.ownBlock≠some Bg
 lt:g<Br/\Br<Bg/\Bg<W.heap.size/\W0.heap.size<=Br
theorem Ma{W W':World}{b o:Nat}{r:Option Nat}(hb:b<W.heap.size)(hg:W.grownBy W' r)(hne:some b≠r):W'.cell? ⟨b,o,none⟩=W.cell? ⟨b,o,none⟩/\W'.frozen? ⟨b,o,none⟩=W.frozen? ⟨b,o,none⟩:=
 ⟨World.cell?_of_block (a:=⟨b,o,none⟩) (hg.block b hb hne),World.frozen?_of_block (a:=⟨b,o,none⟩) (hg.block b hb hne)⟩
theorem J5.turn{g Br Bg:Nat}{W0 W W':World}{vs:List Fw}{v r:Value}{q q':Nat}(h:J5 g Br Bg W0 W vs v r q)(hg:W.grownBy W' (some g))(hR:Fg W' g q'):J5 g Br Bg W0 W' vs v r q':=by
 obtain⟨l1,l2,l3,l4⟩:=h.lt;have hz:=hg.size;obtain⟨a1,a2⟩:=Ma (b:=Br) (o:=0) aH hg (fun e=>by injection e with e;omega);obtain⟨b1,b2⟩:=Ma (b:=Bg) (o:=0) aH hg (fun e=>by injection e with e;omega);exact⟨hR,Ae h.grown hg,a1.trans h.res,a2.trans h.resf,b1.trans h.reg,b2.trans h.regf,h.row.kept hg (.inr fun e=>by have:=(h.row.lt _ e).1;omega),h.off,⟨l1,l2,by omega,l4⟩⟩
theorem J5.below{g Br Bg:Nat}{W0 W W':World}{vs:List Fw}{v r:Value}{q:Nat}(h:J5 g Br Bg W0 W vs v r q)(hb:Below W W W'):J5 g Br Bg W0 W' vs v r q:=
 h.turn (By hb _) (h.rdr.below hb)
theorem J5.app{g Br Bg:Nat}{W0 W7 w5:World}{vs:List Fw}{v v5 r:Value}{q:Nat}{x:Fw}(h:J5 g Br Bg W0 W7 vs v r q)
  (hown:w5.ownsRow (Br+1) 31 2 v5 (vs.length+1) (vs.flatMap Mq++Mq x)) (hg:W7.grownBy w5 v.ownBlock) (hw:v5.ownBlock=v.ownBlock\/∃k,v5.ownBlock=some k/\W7.heap.size<=k):J5 g Br Bg W0 w5 (vs++[x]) v5 r q:=by
 obtain⟨l1,l2,l3,l4⟩:=h.lt;have hz:=hg.size;have hv:∀k,v.ownBlock=some k->Br+1<=k/\k≠Bg:=fun k hk=>⟨(h.row.lt k hk).1,fun e=>h.off (by rw[hk,e])⟩
 have hgb:Below (Br+1) W7 w5:=(Ap _ _).grown hg aH (fun k hk=>(hv k hk).1);obtain⟨a1,a2⟩:=Ma (b:=Br) (o:=0) aH hg (fun e=>by have:=(hv Br e.symm).1;omega);obtain⟨b1,b2⟩:=Ma (b:=Bg) (o:=0) aH hg (fun e=>(hv Bg e.symm).2 rfl);refine⟨h.rdr.belowg (hgb.mono aH) hz,⟨hg.os.trans h.grown.os,hg.tape.trans h.grown.tape,hg.output.trans h.grown.output,ad h.grown.size hz,fun i hi hne=>(hg.block i (ac hi h.grown.size) (fun e=>by have:=(hv i e.symm).1;omega)).trans (h.grown.block i hi hne)⟩,a1.trans h.res,a2.trans h.resf,b1.trans h.reg,b2.trans h.regf,?_,?_,⟨l1,l2,by omega,l4⟩⟩
 ·rw[ah,List.flatMap_append];have e:[x].flatMap Mq=Mq x:=aK;rw[e];exact hown
 rcases hw with hw|⟨k,hk,hk2⟩
 ·rw[hw];exact h.off
 rw[hk];exact bQ
theorem J5.store{g Br Bg:Nat}{W0 W:World}{vs:List Fw}{v r:Value}{q:Nat}(h:J5 g Br Bg W0 W vs v r q):J5 g Br Bg W0 (W.setCell ⟨Bg,0,none⟩ v) vs v v q:=by
 obtain⟨l1,l2,l3,l4⟩:=h.lt;have hg:=Jj W ⟨Bg,0,none⟩ v;obtain⟨a1,a2⟩:=Ma (b:=Br) (o:=0) aH hg (fun e=>by injection e with e;simp at e;omega);refine⟨h.rdr.belowg (((Ap _ _).setCell (show g+1<=Bg by omega) _)) aK,⟨h.grown.os,h.grown.tape,h.grown.output,by simp;exact h.grown.size,fun i hi hne=>(hg.block i (ac hi h.grown.size) (fun e=>by injection e with e;simp at e;omega)).trans (h.grown.block i hi hne)⟩,a1.trans h.res,a2.trans h.resf,?_,?_,h.row.kept hg (.inr h.off),h.off,⟨l1,l2,by simpa using l3,l4⟩⟩
 ·exact World.cell?_setCell_same _ _ _ (by rw[h.reg])
 simpa using h.regf
theorem Qd0{base:Nat}{W:World}{vs:List Fw}{v:Value}(hrow:W.ownsRow base 31 2 v vs.length (vs.flatMap Mq))(hn:vs.length<=1000):Gz W v vs:=by
 rcases hrow.2 with⟨rfl,h0⟩|⟨b,cap,cur,rfl,hb,hh,hnc,hcm,hsz,ht⟩
 ·rw[List.eq_nil_of_length_eq_zero h0];exact⟨none,0,rfl,An _,ag _,fun h=>by simp at h⟩
 refine⟨_,cap,rfl,hnc,by unfold maxLen;omega,fun _=>⟨b,0,rfl,(hrow.lt b rfl).2,fun j u hu=>?_⟩⟩;have:=hrow.cells (g:=b) rfl j u hu;rw[Qd6]at this;simpa using this
theorem Qe6{base k n:Nat}{e:TypeId}{W:World}{v:Value}{xs:List Value}(h:W.ownsRow base e k v n xs)(hn:0<n):∃b c,v=.slice (some ⟨b,0,none⟩) n c:=by
 rcases h.2 with⟨_,h0⟩|⟨b,cap,cur,rfl,_⟩
 ·omega
 exact⟨b,cap,rfl⟩
theorem J5.vrow{g Br Bg:Nat}{W0 W:World}{vs:List Fw}{v r:Value}{q:Nat}(h:J5 g Br Bg W0 W vs v r q)(hn:vs.length<=1000):Gz W v vs:=Qd0 h.row hn
theorem J5.fin{g Br Bg:Nat}{W0 W:World}{vs:List Fw}{v r:Value}{q:Nat}(h:J5 g Br Bg W0 W vs v r q)(hn:vs.length<=1000)(u:Value):Gz (W.setCell ⟨Br,0,none⟩ u) v vs/\Fg (W.setCell ⟨Br,0,none⟩ u) g q/\W0.grownBy (W.setCell ⟨Br,0,none⟩ u) (some g):=by
 obtain⟨l1,l2,l3,l4⟩:=h.lt;have hg:=Jj W ⟨Br,0,none⟩ u;refine⟨Qd0 (h.row.kept hg (.inr fun e=>by have:=(h.row.lt _ e).1;simp at this;omega)) hn,h.rdr.belowg (((Ap _ _).setCell (show g+1<=Br by omega) _)) aK,⟨h.grown.os,h.grown.tape,h.grown.output,by simp;exact h.grown.size,fun i hi hne=>(hg.block i (ac hi h.grown.size) (fun e=>by injection e with e;simp at e;omega)).trans (h.grown.block i hi hne)⟩⟩
theorem J5.drop{g Br Bg:Nat}{W0 W:World}{vs:List Fw}{A:Option Addr}{n c:Nat}{r:Value}{q:Nat}(h:J5 g Br Bg W0 W vs (.slice A n c) r q)(hp:0<vs.length):J5 g Br Bg W0 W vs.dropLast (.slice A (vs.length - 1) c) r q:=by
 obtain⟨h1,h2,h3,h4,h5,h6,h7,h8,h9⟩:=h;have hb:(Value.slice A (vs.length - 1) c).ownBlock=(Value.slice A n c).ownBlock:=by cases A<;>rfl
 refine⟨h1,h2,h3,h4,h5,h6,?_,by rw[hb];exact h8,h9⟩;obtain⟨e0,⟨e1,e2⟩|⟨b,cap,cur,e1,e2,e3,e4,e5,e6,e7⟩⟩:=h7
 ·omega
 injection e1 with e8 e9 e10;subst e8 e9 e10;refine⟨by simp[J1 Pr],.inr ⟨b,c,cur,by simp,e2,e3,by simp;omega,e5,e6,?_⟩⟩;have:cur.toList.take (vs.dropLast.length*2)=(vs.flatMap Mq).take (vs.dropLast.length*2):=by
  rw[<-e7,List.take_take];congr 1
  simp
 rw[this];obtain⟨us,x,rfl⟩:∃us x,vs=us++[x]:=⟨vs.dropLast,vs.getLast (by intro e;rw[e]at hp;simp at hp),(List.dropLast_concat_getLast _).symm⟩
 rw[List.dropLast_concat,List.flatMap_append,List.take_append_of_le_length (by simp[J1 Pr])];exact au (by rw[J1 Pr];omega)
theorem J5.get{g Br Bg:Nat}{W0 W:World}{vs:List Fw}{A:Option Addr}{n c:Nat}{r:Value}{q:Nat}(h:J5 g Br Bg W0 W vs (.slice A n c) r q)(hn:vs.length<=1000){i:Nat}(hi:i<vs.length):
  ∃b,A=some ⟨b,0,none⟩/\n=vs.length/\b<W.heap.size/\W.cell? ⟨b,i*2,none⟩=some (.string ⟨vs[i].1.toArray⟩)/\W.cell? ⟨b,i*2+1,none⟩=some (.string ⟨vs[i].2.toArray⟩):=by
 have hrow:=h.row;rcases hrow.2 with⟨e,h0⟩|⟨b,cap,cur,e,_⟩
 ·omega
 obtain⟨A2,c2,e2,_,_,hc⟩:=h.vrow hn;injection e with e3 e4 e5;subst e3 e4 e5;injection e2 with e6 e7 e8;obtain⟨b',o',e9,hb,x0,x1⟩:=Gz.at_ (e6 ▸ hc) hi;injection e9 with e9;injection e9 with e10 e11;subst e10 e11;exact⟨b,rfl,rfl,hb,by simpa using x0,by simpa using x1⟩
theorem Ta.drop{vs:List Fw}(h:∀x∈vs,x.1.length<=100000/\x.2.length<=15):∀x∈vs.dropLast,x.1.length<=100000/\x.2.length<=15:=fun x hx=>h x (List.dropLast_subset _ hx)
def Ta(vs:List Fw):Prop:=∀x∈vs,x.1.length<=100000/\x.2.length<=15
def Qmv(w:World)(g p:Nat)(e:Ending)(w':World):Prop:=∃(vs:List Fw) (v:Value) (q:Nat),e=.returned (.agg #[v])/\Gz w' v vs/\(∃gb cc,v=.slice (some ⟨gb,0,none⟩) vs.length cc/\w.heap.size<gb)/\Ta vs/\1<=vs.length/\vs.length<=3/\q<=p+3010/\Fg w' g q/\w.grownBy w' (some g)
theorem Yf(g p:Nat)(w:World)(h:Fg w g p)(hp:p<=50000):
  Calls prog 10 #[g] w (Qmv w g p):=by
 have hgl:=h.lt;have HR:=Aa h;clear h;go_enter func10,ntmps10;go_wp2_with fail;refine(Qcx g p _ (HR.o.below ((Ap _ _).alloc (An _) _)) aH).mono ?_;rintro e w1 ⟨a,b,c',d,q1,rfl,ha,hb,hc',hd,hq1,hR1,hg1⟩;have hz1:w.heap.size<w1.heap.size:=by have:=hg1.size;simp at this;omega
 have hS0:J5 g w.heap.size (w1.heap.size+1) w ((w1.alloc (.cells #[c',d] 31)).alloc (.cells #[.slice (w1,0) 1 1] 25)) [(c',d)] (.slice (w1,0) 1 1) (.slice (w1,0) 1 1) q1:=by
  have hba:Below w1 w1 ((w1.alloc (.cells #[c',d] 31)).alloc (.cells #[.slice (w1,0) 1 1] 25)):=((Ap _ _).alloc (An _) _).alloc aK _;obtain⟨a1,a2⟩:=Ma (b:=w.heap.size) (o:=0) aK hg1 (fun e=>by injection e with e;omega);obtain⟨hc,hf,_⟩:=Cj hba;refine⟨hR1.below hba,Ae (Ae (By ((Ap _ _).alloc (An _) _) _) hg1) (By hba _),?_,?_,?_,?_,?_,?_,⟨hgl,by omega,by simp,An _⟩⟩
  ·rw[hc _ _ hz1,a1];simp[go_sem]
  ·rw[hf _ _ hz1,a2];simp[go_sem]
  ·have e:=World.cell?_alloc_new (w:=w1.alloc (.cells #[c',d] 31)) #[.slice (w1,0) 1 1] 25 0;rw[World.size_alloc]at e;exact e.trans rfl
  ·have e:=World.frozen?_alloc_new (w:=w1.alloc (.cells #[c',d] 31)) #[.slice (w1,0) 1 1] 25 0;rw[World.size_alloc]at e;exact e
  ·refine⟨by simp[Mq],.inr ⟨w1.heap.size,1,#[c',d],rfl,by omega,?_,by simp,by unfold maxLen;omega,rfl,by simp[Mq]⟩⟩;exact(((Ap (w1.alloc (.cells #[c',d] 31)).heap.size _).alloc (An _) _).block w1.heap.size aK).trans Array.getElem?_push_size
  simp[Value.ownBlock]
 have HS0:=Aa hS0;have hgl1:=hR1.lt;clear hR1 hg1 HR hS0;go_wp2_with fail;refine(Bp g q1 3 _ HS0.o.rdr aH aH aH).mono ?_;rintro e w4 ⟨x4,rfl,hx1,_,hR4,hg4⟩;have HS4:=Aa (HS0.o.turn hg4 hR4);have r4:w4.cell? (w1,1,0)=some (.slice (w1,0) 1 1):=HS4.o.reg;have l4:w1.heap.size+1<w4.heap.size:=HS4.o.lt.2.2.1;clear hR4 hg4 hx1 HS0;go_upto_if 22 with fail
 generalize decide (0<x4)=bb;go_cut []from 23 to 30 (fun wx=>∃(vs:List Fw) (gb nn cc q6:Nat),Hid (nn=vs.length)/\1<=nn/\nn<=2/\q6<=p+3001/\Hid (Ta vs)/\Hid (J5 g w.heap.size (w1.heap.size+1) w wx vs (.slice (gb,0) nn cc) (.slice (gb,0) nn cc) q6))
 case first=>
  cases bb with
  |false=>
   go_wp2_with fail;go_meet
   exact⟨[(c',d)],w1.heap.size,1,1,q1+1,rfl,by omega,by omega,by omega,fun x hx=>by simp at hx;subst hx;exact⟨by show c'.length<=100000;omega,hd⟩,HS4.o⟩
  |true=>
   go_wp2_with (at_builtin;go_loud (refine Mw w4 rfl (.tmp 24) (.tmp 28) 23 rfl (w.heap.size+1) 31 (.agg #[a6,a6]) 2 32 underlying23 Tryz.infoVer rfl aJ [a,.string ⟨b.toArray⟩] rfl (by intro y hy;simp at hy;rcases hy with rfl|rfl<;>rfl) (.slice (w1,0) 1 1) 1 (Mq (c',d)) rfl rfl HS4.o.row aU aH (by have:=HS4.o.lt;omega) ?_);intro v5 w5 hown5 hg5 hwh5;obtain⟨gb5,c5,e5⟩:=Qe6 hown5 aH;subst e5;have HA:=Aa (J5.app (x:=(a,b)) HS4.o hown5 hg5 hwh5);have f5:w5.frozen? (w1,1,0)=false:=HA.o.regf;have p5:w5.cell? (w1,1,0)=some (.slice (w1,0) 1 1):=HA.o.reg;clear hown5 hg5 hwh5)
   go_meet
   exact⟨[(c',d),(a,b)],gb5,2,c5,q1+1,rfl,by omega,by omega,by omega,fun x hx=>by simp at hx;rcases hx with rfl|rfl;exact⟨by show c'.length<=100000;omega,hd⟩;exact⟨ha,hb⟩,HA.o.store⟩
 case rest=>
  obtain⟨w6,rfl⟩:∃w6:World,w6=wc:=⟨_,rfl⟩
  obtain⟨vs,gb,nn,cc,q6,hnn,hn1,hn2,hq6,Hsv,HS6⟩:=hcut;clear HS4 r4 l4;go_wp2_with fail;refine(Bp g q6 3 _ HS6.o.rdr aH aH aH).mono ?_;rintro e w7 ⟨x7,rfl,hx1,_,hR7,hg7⟩;have HS:=Aa (HS6.o.turn hg7 hR7);clear hR7 hg7 hx1 HS6;obtain⟨q7,hq7⟩:∃q7,q7=q6+1:=⟨_,rfl⟩
  rw[<-hq7]at HS;go_upto_if 33 with fail
  generalize ((x7:Int) == 0)=b7;go_cut []from 34 to 46 (fun wx=>∃(vs:List Fw) (gb nn cc:Nat),Hid (nn=vs.length)/\1<=nn/\nn<=3/\Hid (Ta vs)/\Hid (J5 g w.heap.size (w1.heap.size+1) w wx vs (.slice (gb,0) nn cc) (.slice (gb,0) nn cc) q7))
  case first=>
   cases b7 with
   |false=>
    go_wp2_with fail;go_meet
    exact⟨vs,gb,nn,cc,hnn,hn1,by omega,Hsv.o,HS.o⟩
   |true=>
    go_upto_region 6 with fail
    obtain⟨x,hx⟩:∃x:Fw,vs[nn - 1]' cB=x:=⟨_,rfl⟩
    have hxm:x∈vs:=by rw[<-hx];exact ae _
    have Hxs:=Aa (Hsv.o x hxm);have hx:=Aa hx;clear hxm;refine Jo [34,35,36,37,38,39,40,41,42,43,44,45,46,999]
     (fun ix v W=>match ix with|0=>v=(w1,1,0)|1=>v=.slice (gb,0) nn cc|2=>v=(w1,1,0)|3=>v=.slice (gb,0) nn cc|4=>v=(w1,1,0)|5=>v=.slice (gb,0) nn cc|6=>v=(nn:Int)|7=>v=.int .i64 ((nn:Int) - 1)|8=>v=.pointer (some ⟨gb,(nn - 1)*2,none⟩)|9=>v=.agg #[x.1,x.2]|10=>∃b,v=.slice (some ⟨b,0,none⟩) 1 1|11=>∃A n c,v=.slice A n c|12=>v=(w1,1,0)|13=>v=undef|_=>True)
     (fun L U W=>(L 13=false->W.cell? (.mk (w1.heap.size+1) 0 none)=some (.slice (some (.mk gb 0 none)) nn cc))/\(L 10=false->J5 g w.heap.size (w1.heap.size+1) w W vs (.slice (some (.mk gb 0 none)) nn cc) (.slice (some (.mk gb 0 none)) nn cc) q7)/\(L 10=true->L 11=false->∃W7,W=W7.alloc (.cells (Mq x).toArray 31)/\U 10=.slice (some ⟨W7.heap.size,0,none⟩) 1 1/\J5 g w.heap.size (w1.heap.size+1) w W7 vs (.slice (some (.mk gb 0 none)) nn cc) (.slice (some (.mk gb 0 none)) nn cc) q7)/\(L 11=true->L 13=false->L 10=true/\J5 g w.heap.size (w1.heap.size+1) w W (vs++[x]) (U 11) (.slice (some (.mk gb 0 none)) nn cc) q7)/\(L 13=true->∃v2,J5 g w.heap.size (w1.heap.size+1) w W (vs++[x]) v2 v2 q7)) (⟨fun _=>HS.o.reg,fun _=>HS.o.below (Ap _ _).drew,fun h=>Bool.noConfusion h,fun h=>Bool.noConfusion h,fun h=>Bool.noConfusion h⟩) ?_ ?_
    ·repeat (first|exact Ak.nil|(refine Ak.cons ?_ ?_;rotate_left))
     all_goals
      rintro L U W hL hpre HR Hdep K hK;obtain⟨R0,R1,R2,R3,R4⟩:=HR.o;first|(simp[Region.binds]at hpre;done)|simp[Region.binds]at hpre|clear hpre
     ·exact ip
     ·have h11:L 11=false:=Az Hdep.o 11 1 rfl hL;exact lU
     ·exact ip
     ·have h8:L 8=false:=Az Hdep.o 8 3 rfl hL;exact lV
     ·exact ip
     ·have h6:L 6=false:=Az Hdep.o 6 5 rfl hL;have h7:L 7=false:=Az Hdep.o 7 6 rfl h6;have h8:L 8=false:=Az Hdep.o 8 7 rfl h7;exact lV
     ·exact ip
     ·have wn:IntKind.i64.wrap ((nn:Int) - 1)=(nn:Int) - 1:=IntWalk.i64_in _ aH;go_simp;exact hK (.int .i64 ((nn:Int) - 1)) _ _ rfl Ac HR.o (by simp[Act.put,hpre,wn])
     ·have u3:U 3=.slice (gb,0) nn cc:=by
       first|exact hpre.1.2|exact hpre.2.2|exact hpre.2.1.2
      have u7:U 7=.int .i64 ((nn:Int) - 1):=by
       first|exact hpre.2.2|exact hpre.1.2|exact hpre.2.1.2|exact hpre.2
      have t1:((nn:Int) - 1)=((nn - 1:Nat):Int):=aH;rw[t1]at u7;have t2:((nn - 1:Nat):Int)<(nn:Int):=aH;have t3:(0:Int)<=((nn - 1:Nat):Int):=aH;go_simp;exact hK (.pointer (some ⟨gb,(nn - 1)*2,none⟩)) _ _ rfl Ac HR.o (by simp[Act.put,u3,u7])
     ·have h10:L 10=false:=Az Hdep.o 10 9 rfl hL;have hS:=R1 h10;obtain⟨b9,e9,e8,_,c0,c1⟩:=hS.get cB (show nn - 1<vs.length by have:=hnn.o;omega);injection e9 with e9;injection e9 with e9;subst e9;rw[hx.o]at c0 c1;clear e8 hS;exact lq
     ·have h11:L 11=false:=Az Hdep.o 11 10 rfl hL;have h13:L 13=false:=Az Hdep.o 13 11 rfl h11;have hS:=R1 hL;have u9:U 9=.agg #[x.1,x.2]:=by
       first|exact hpre.2|exact hpre.1.2|exact hpre.2.2
      have hba:Below W W (W.alloc (.cells (Mq x).toArray 31)):=(Ap _ _).alloc (An _) _;go_simp;exact hK _ _ _ ⟨W.heap.size,rfl⟩ Ac ⟨fun h=>(hS.below hba).reg,fun h=>by simp at h,fun _ _=>⟨W,rfl,rfl,hS⟩,fun h=>absurd (h11.symm.trans aQ) aJ,fun h=>absurd (h13.symm.trans aQ) aJ⟩ (by simp[Act.put,u9])
     ·obtain⟨lv,uv⟩:L 1=true/\U 1=.slice (gb,0) nn cc:=by
       exact lL
      obtain⟨ls,bs,us⟩:L 10=true/\∃b,U 10=.slice (some ⟨b,0,none⟩) 1 1:=by
       exact lM
      have h13:L 13=false:=Az Hdep.o 13 11 rfl hL;obtain⟨W7,rfl,u7,o5⟩:=R2 ls hL;rw[if_pos cx];refine Fl W7 (.tmp 35) (.tmp 44) 23 rfl (w.heap.size+1) 31 (.agg #[a6,a6]) 2 32 underlying23 Tryz.infoVer rfl aJ (Mq x) rfl (fun y hy=>Qkb [x] y dK) (.slice (some (.mk gb 0 none)) nn cc) vs.length (vs.flatMap Mq) uv u7 o5.row (by have:=hnn.o;unfold maxLen;omega) cB cM ?_;intro v' w' hown hg hwh;obtain⟨A5',n5',c5',rfl⟩:=Ek hown;have oa:=o5.app (x:=x) hown hg hwh;exact hK _ _ _ ⟨A5',n5',c5',rfl⟩ Ac ⟨fun _=>oa.reg,fun h=>absurd (ls.symm.trans aQ) aJ,fun _ h=>by simp at h,fun _ _=>⟨by simpa using ls,oa⟩,fun h=>absurd (h13.symm.trans aQ) aJ⟩ rfl
     ·exact ip
     ·obtain⟨la,A5',n5',c5',ua⟩:L 11=true/\∃A n c,U 11=.slice A n c:=by
       first|exact⟨hpre.1.1,hpre.1.2⟩|exact⟨hpre.2.1.1,hpre.2.1.2⟩|exact⟨hpre.2.1,hpre.2.2⟩
      obtain⟨ls,oa⟩:=R3 la hL;have up:U 12=(w1,1,0):=by
       exact lP
      rw[ua]at oa;have hcell:=oa.reg;have hfz:=oa.regf;have os:=oa.store;go_simp;exact hK undef _ _ rfl Ac ⟨fun h=>by simp at h,fun h=>absurd (ls.symm.trans aQ) aJ,fun _ h=>absurd (la.symm.trans aQ) aJ,fun _ h=>by simp at h,fun _=>⟨_,os⟩⟩ fM
    rintro L U W hL hφ hR;clear hφ;have h13:=hL 13 aJ;obtain⟨_,_,_,_,R4⟩:=hR;obtain⟨v2,os⟩:=R4 h13;obtain⟨gb2,c2,rfl⟩:=Qe6 os.row aK;clear hL R4 HS;go_wp2_with fail;go_meet
    exact⟨vs++[x],gb2,_,c2,rfl,by simp,(by have:=hnn.o;simp;omega),fun y hy=>by rcases af.1 hy with h|h;exact Hsv.o y h;simp at h;subst h;exact Hxs.o,os⟩
  case rest=>
   obtain⟨w8,rfl⟩:∃w8:World,w8=wc:=⟨_,rfl⟩
   obtain⟨vs1,gb1,n1,c1,hn1',hp1,hle1,Hsv1,HS8⟩:=hcut;clear HS Hsv hnn hn1 hn2;go_wp2_with fail;go_loopw [] (fun wr=>∃(vs:List Fw) (gb nn cc q:Nat),Hid (nn=vs.length)/\1<=nn/\nn<=3/\q+nn<=q7+3/\wr.cell? (w1,1,0)=some (.slice (gb,0) nn cc)/\Hid (Ta vs)/\Hid (J5 g w.heap.size (w1.heap.size+1) w wr vs (.slice (gb,0) nn cc) (.slice (gb,0) nn cc) q)) (fun wr=>match wr.cell? (w1,1,0)with|some (.slice _ n _)=>n|_=>0)
   case atStart=>exact⟨vs1,gb1,n1,c1,q7,hn1',hp1,hle1,by omega,HS8.o.reg,Hsv1.o,HS8.o⟩
   case round=>
    clear HS8 Hsv1 hn1' hp1 hle1;obtain⟨vs,gb,nn,cc,q,hnn,hp,hle,hq,r1,Hsv,HS⟩:=hrel;have Hr:=Aa (Zs _ vs wr (HS.o.vrow cB) cB (fun x hx=>by have:=Hsv.o x hx;omega));have hcc:nn<=cc:=by
     obtain⟨A2,c2,e2,h2,_⟩:=HS.o.vrow cB;injection e2 with _ _ e2;have:=hnn.o;omega
    generalize N4 vs=ro at Hr;go_wp2_with fail;refine Hr.o.mono ?_;rintro e w9 ⟨rfl,hb9⟩;have HS9:=Aa (HS.o.below hb9);have R1:=Aa r1;have r9:w9.cell? (w1,1,0)=some (.slice (gb,0) nn cc):=HS9.o.reg;clear hb9 HS Hr r1;cases ro with
    |true=>
     have z1:=HS9.o.res;have z2:=HS9.o.resf;have z3:=HS9.o.reg;have hfin:=Aa (HS9.o.fin cB (.slice (gb,0) nn cc));go_wp2_with fail;refine aF (v:=.agg #[.slice (gb,0) nn cc]) (by simp[results,results10,go_sem,z1,z2]) rfl ?_;exact lW
    |false=>
     by_cases hl1:1<nn
     ·have t1:(1:Int)<(nn:Int):=aH;go_wp2_with fail;refine(Bp g q 6 _ HS9.o.rdr aH aH aH).mono ?_;rintro e w10 ⟨x10,rfl,hx1,_,hR10,hg10⟩;have HS10:=Aa (HS9.o.turn hg10 hR10);have r10:w10.cell? (w1,1,0)=some (.slice (gb,0) nn cc):=HS10.o.reg;clear hR10 hg10 hx1 HS9 r9;by_cases hx0:x10=0
      ·subst hx0;have z1:=HS10.o.res;have z2:=HS10.o.resf;have z3:=HS10.o.reg;have hfin:=Aa (HS10.o.fin cB (.slice (gb,0) nn cc));go_wp2_with fail;refine aF (v:=.agg #[.slice (gb,0) nn cc]) (by simp[results,results10,go_sem,z1,z2]) rfl ?_;exact⟨vs,_,(q+1),rfl,hfin.o.1,⟨gb,cc,by rw[hnn.o],by first|(have:=(HS9.o.row.lt gb rfl).1;omega)|(have:=(HS10.o.row.lt gb rfl).1;omega)⟩,Hsv.o,by have:=hnn.o;omega,by have:=hnn.o;omega,by omega,hfin.o.2.1,hfin.o.2.2⟩
      have tx:0<x10:=aH;have f10:=HS10.o.regf;have wn:IntKind.i64.wrap ((nn:Int) - 1)=((nn - 1:Nat):Int):=im;have n0:(0:Int)<=((nn - 1:Nat):Int):=aH;have n1:((nn - 1:Nat):Int)<=(cc:Int):=aH;have hst:=(HS10.o.drop cB).store;rw[<-hnn.o]at hst;have Hst:=Aa hst;clear hst;go_wp2_with fail;go_roundw
      case rel=>exact⟨vs.dropLast,gb,nn - 1,cc,q+1,(by have:=hnn.o;show nn - 1=_;simp;omega),by omega,by omega,by omega,Hst.o.reg,Ta.drop Hsv.o,Hst.o⟩
      case measure=>rw[R1.o,Hst.o.reg];show nn - 1<nn;omega
     have t1:¬((1:Int)<(nn:Int)):=aH;have z1:=HS9.o.res;have z2:=HS9.o.resf;have z3:=HS9.o.reg;have hfin:=Aa (HS9.o.fin cB (.slice (gb,0) nn cc));go_wp2_with fail;refine aF (v:=.agg #[.slice (gb,0) nn cc]) (by simp[results,results10,go_sem,z1,z2]) rfl ?_;exact lW
theorem Qkc{W:World}{gb n c B o:Nat}{vs:List Fw}(h:Gz W (.slice (gb,0) n c) vs)(hne:gb≠B)(u:Value):Gz (W.setCell ⟨B,o,none⟩ u) (.slice (gb,0) n c) vs:=by
 obtain⟨A,c2,e,h1,h2,h3⟩:=h;injection e with e1 e2 e3;subst e1 e2 e3;refine⟨_,_,rfl,h1,h2,fun hp=>?_⟩;obtain⟨b,off,e,hb,hc⟩:=h3 hp;injection e with e;injection e with e4 e5;subst e4 e5;exact⟨gb,0,rfl,by simpa using hb,fun j x hx=>by rw[World.cell?_setCell_other _ _ _ _ (by intro e;injection e with e;exact hne e.symm)];exact hc j x hx⟩
end
def Ka(S:List Ty)(k:Kd)(N B:Nat)(w:World)(g p:Nat)(e:Ending)(w':World):Prop:=
 ∃b v q,e=.returned (.pointer (some ⟨b,0,none⟩))/\Jf S N k v/\(Bc v).length<=B/\q<=p+B/\Fv (fun c=>w.heap.size<=c) w' b (Ci S k v)/\Fg w' g q/\w.grownBy w' (some g)
theorem Ej.gr{base B g:Nat}{W W':World}{h0 h1 tu tv ku kv:Value}{gs:List Nat}{xs:List (Nat × SV)}(h:Ej base B W h0 h1 tu tv ku kv gs xs)(hg:W.grownBy W' (some g))(hl:g<B):Ej base B W' h0 h1 tu tv ku kv gs xs:=by
 have hn:some B≠some g:=fun e=>fJ;have hB:=h.hB;exact⟨ac h.lt hg.size,ad h.bs hg.size,h.hB,h.bk.grown h.lt hg hn,hg.cell h.c0 hn,hg.cell h.c1 hn,hg.cell h.c2 hn,hg.cell h.c3 hn,h.tags.kept hg (N6 (fun k hk=>(h.tags.lt k hk).1) aH),h.row.kept hg (N6 (fun k hk=>(h.row.lt k hk).1) aH),fun y hy=>(h.kids y hy).grown hg fun c hc e=>by injection e with e;omega⟩
theorem Ej.set1{base B:Nat}{W:World}{h0 h1 tu tv ku kv:Value}{gs:List Nat}{xs:List (Nat × SV)}(h:Ej base B W h0 h1 tu tv ku kv gs xs)(u:Value):Ej base B (W.setCell ⟨B,1,none⟩ u) h0 u tu tv ku kv gs xs:=by
 have hg:=Ao W B 1 u;exact lX
theorem Fg.row{w w':World}{g p base:Nat}{r:Option Nat}(h:Fg w g p)(hg:w.grownBy w' r)(hr:∀k,r=some k->base<=k)(hb:g<base):Fg w' g p:=
 h.belowg ((Ap _ _).grown hg h.lt (fun k hk=>ac hb (hr k hk))) hg.size
theorem Fx{w0 w w':World}{g base:Nat}{r:Option Nat}(h:w0.grownBy w (some g))(hg:w.grownBy w' r)(hr:∀k,r=some k->base<=k)(hb:w0.heap.size<=base):w0.grownBy w' (some g):=
 ⟨hg.os.trans h.os,hg.tape.trans h.tape,hg.output.trans h.output,ad h.size hg.size,fun k hk hn=>(hg.block k (ac hk h.size) (fun e=>by have:=hr k e.symm;omega)).trans (h.block k hk hn)⟩
structure Nr(w0:World)(g base B:Nat)(W1:World)(h0 h1 tv:Value)(A:Option Addr)(c:Nat)(gs:List Nat)(xs:List (Nat × SV))(F:SV->Nat->Prop)(lc lb la ls:Bool)(uc ub ua:Value)(W:World):Prop where
 s0:lc=false->W=W1
 s1:lc=true->lb=false->∃b v q,uc=.pointer (some ⟨b,0,none⟩)/\F v q/\Fg W g q/\w0.grownBy W (some g)/\Fv (fun c=>W1.heap.size<=c) W b v/\Ej base B W h0 h1 tv tv (.slice A xs.length c) (.slice A xs.length c) gs xs
 s2:lb=true->la=false->∃W8 b v q,W=W8.alloc (.cells #[.pointer (some ⟨b,0,none⟩)] 62)/\ub=.slice (some ⟨W8.heap.size,0,none⟩) 1 1/\F v q/\Fg W8 g q/\w0.grownBy W8 (some g)/\Fv (fun c=>W1.heap.size<=c) W8 b v/\Ej base B W8 h0 h1 tv tv (.slice A xs.length c) (.slice A xs.length c) gs xs
 s3:la=true->ls=false->∃b v q A6 c6,ua=.slice A6 (xs.length+1) c6/\F v q/\Fg W g q/\w0.grownBy W (some g)/\Ej base B W h0 h1 tv tv (.slice A xs.length c) ua gs (xs++[(b,v)])
 s4:ls=true->∃b v q A6 c6,F v q/\Fg W g q/\w0.grownBy W (some g)/\Ej base B W h0 h1 tv tv (.slice A6 (xs.length+1) c6) (.slice A6 (xs.length+1) c6) gs (xs++[(b,v)])
section
variable {w0 W1 W W':World} {g base B:Nat} {h0 h1 tv uc ub ua:Value} {A:Option Addr} {c:Nat} {gs:List Nat} {xs:List (Nat × SV)} {F:SV->Nat->Prop} {lc lb la ls:Bool}
theorem Nr.start:Nr w0 g base B W1 h0 h1 tv A c gs xs F false false false false uc ub ua W1:=
 ⟨fun _=>rfl,fun h=>Bool.noConfusion h,fun h=>Bool.noConfusion h,fun h=>Bool.noConfusion h,fun h=>Bool.noConfusion h⟩
theorem Nr.c3(h:Nr w0 g base B W1 h0 h1 tv A c gs xs F lc lb la ls uc ub ua W)(hl:Ej base B W1 h0 h1 tv tv (.slice A xs.length c) (.slice A xs.length c) gs xs)(hla:la=false):W.cell? (B,3)=some (.slice A xs.length c):=by
 cases ec:lc with
 |false=>rw[h.s0 ec];exact hl.c3
 |true=>
  cases eb:lb with
  |false=>obtain⟨_,_,_,_,_,_,_,_,hL⟩:=h.s1 ec eb;exact hL.c3
  |true=>obtain⟨W8,_,_,_,rfl,_,_,_,_,_,hL⟩:=h.s2 eb hla;exact(hL.after ((Ap _ _).alloc (An _) _)).c3
theorem Nr.call{b:Nat}{v:SV}{q:Nat}(hw:w0.grownBy W1 (some g))(hl:Ej base B W1 h0 h1 tv tv (.slice A xs.length c) (.slice A xs.length c) gs xs)(hgB:g<B)(hb:lb=false)(ha:la=false)(hs:ls=false)(hF:F v q)(hR:Fg W g q)(hg:W1.grownBy W (some g))(hv:Fv (fun c=>W1.heap.size<=c) W b v):
  Nr w0 g base B W1 h0 h1 tv A c gs xs F true lb la ls b ub ua W:=by
 subst hb ha hs;exact⟨fun h=>Bool.noConfusion h,fun _ _=>⟨b,v,q,rfl,hF,hR,Ae hw hg,hv,hl.gr hg hgB⟩,fun h=>Bool.noConfusion h,fun h=>Bool.noConfusion h,fun h=>Bool.noConfusion h⟩
theorem Nr.build(h:Nr w0 g base B W1 h0 h1 tv A c gs xs F lc lb la ls uc ub ua W)(hc:lc=true)(hb:lb=false)(ha:la=false)(hs:ls=false):∃b,uc=.pointer (some ⟨b,0,none⟩) /\
  Nr w0 g base B W1 h0 h1 tv A c gs xs F lc true la ls uc (.slice (W,0) 1 1) ua (W.alloc (.cells #[.pointer (some ⟨b,0,none⟩)] 62)):=by
 obtain⟨b,v,q,e,h2,h3,h4,h5,h6⟩:=h.s1 hc hb;subst ha hs;exact⟨b,e,fun h=>absurd (hc.symm.trans h) aJ,fun _ h=>Bool.noConfusion h,fun _ _=>⟨W,b,v,q,rfl,rfl,h2,h3,h4,h5,h6⟩,fun h=>Bool.noConfusion h,fun h=>Bool.noConfusion h⟩
theorem Nr.app{W8:World}{b:Nat}{v:SV}{q:Nat}{u:Value}(hw:w0.heap.size<=B)(hgB:g<B)(hbs:base<=W1.heap.size)(hl1:Ej base B W1 h0 h1 tv tv (.slice A xs.length c) (.slice A xs.length c) gs xs)(hF:F v q)(hR:Fg W8 g q)(hg0:w0.grownBy W8 (some g))(hv:Fv (fun c=>W1.heap.size<=c) W8 b v)(hL:Ej base B W8 h0 h1 tv tv (.slice A xs.length c) (.slice A xs.length c) gs xs)
  (hc:lc=true) (hb:lb=true) (hs:ls=false) (hown:W.ownsRow base 62 1 u (xs.length+1) (D7 (xs.map (·.1))++[.pointer (some ⟨b,0,none⟩)])) (hg:W8.grownBy W (Value.slice A xs.length c).ownBlock) (hwh:u.ownBlock=(Value.slice A xs.length c).ownBlock\/∃k,u.ownBlock=some k/\W8.heap.size<=k):
  Nr w0 g base B W1 h0 h1 tv A c gs xs F lc lb true ls uc ub u W/\∃A6 c6,u=.slice A6 (xs.length+1) c6:=by
 have hk:Fv (fun c1=>base<=c1/\(Value.slice A xs.length c).ownBlock≠some c1/\tv.ownBlock≠some c1) W8 b v:=hv.mono fun c1 h1 _=>⟨ad hbs h1,fun e=>by have:=(hl1.row.lt c1 e).2;omega,fun e=>by have:=(hl1.tags.lt c1 e).2;omega⟩
 obtain⟨A6,c6,e6,hP,hB⟩:=hL.push (x:=(b,v)) hk hown hg hwh;have e6':u=.slice A6 (xs.length+1) c6:=fL;have hrow:∀k,(Value.slice A xs.length c).ownBlock=some k->base<=k:=fun k hk=>(hL.row.lt k hk).1;have hB':=hL.hB;subst hs;exact⟨⟨fun h=>absurd (hc.symm.trans h) aJ,fun _ h=>absurd (hb.symm.trans h) aJ,fun _ h=>Bool.noConfusion h,fun _ _=>⟨b,v,q,A6,c6,e6',hF,hR.row hg hrow aH,Fx hg0 hg hrow aH,hP⟩,fun h=>Bool.noConfusion h⟩,A6,c6,e6'⟩
theorem Nr.store(h:Nr w0 g base B W1 h0 h1 tv A c gs xs F lc lb la ls uc ub ua W)(hw:w0.heap.size<=B)(hgB:g<B)(hc:lc=true)(hb:lb=true)(ha:la=true)(hs:ls=false)(hW:W'=W.setCell ⟨B,3,none⟩ ua):Nr w0 g base B W1 h0 h1 tv A c gs xs F lc lb la true uc ub ua W':=by
 subst hW;obtain⟨b,v,q,A6,c6,e,hF,hR,hg,hL⟩:=h.s3 ha hs;have hgc:=Ao W B 3 ua;refine⟨fun h=>absurd (hc.symm.trans h) aJ,fun _ h=>absurd (hb.symm.trans h) aJ,fun _ h=>absurd (ha.symm.trans h) aJ,fun _ h=>Bool.noConfusion h,fun _=>⟨b,v,q,A6,c6,hF,hR.row (base:=B) hgc (fun k e=>by injection e with e;omega) hgB,Fx hg hgc (base:=B) (fun k e=>by injection e with e;omega) hw,?_⟩⟩;have:=hL.set3;rw[e]at this ⊢;exact this
end
section
attribute [local go_sem] Qo7 Qok Qoa Ql9 ByteArray.mk_append_mk
def Yg(W:World)(b:Nat)(ms:List Nat):Prop:=W.heap[b]?=some (.cells (D4 ms).toArray 3 (0,0))
theorem Yg.new(W:World)(ms:List Nat):Yg (W.alloc (.cells (D4 ms).toArray 3)) W.heap.size ms:=heap_alloc_new W _
theorem Yg.lt{W:World}{b:Nat}{ms:List Nat}(h:Yg W b ms):b<W.heap.size:=by
 rcases aG b W.heap.size with h1|h1
 ·exact h1
 unfold Yg at h;rw[Array.getElem?_eq_none h1]at h;cases h
theorem Yg.grown{W W':World}{b r:Nat}{ms:List Nat}(h:Yg W b ms)(hg:W.grownBy W' (some r))(hne:b≠r):Yg W' b ms:=
 (hg.block b h.lt (fun e=>hne (Option.some.inj e))).trans h
theorem Yg.cell{W:World}{b j:Nat}{ms:List Nat}(h:Yg W b ms)(hj:j<ms.length):∃m,m∈ms/\W.cell? ⟨b,j,none⟩=(m:Int):=
 ⟨ms[j],ae hj,by unfold Yg at h;simp[World.cell?,h,D4,hj]⟩
def Qdn:List (List UInt8):=[[],[97],[104,105],[97,32,98],[122,122,57],[97,98,99,100,101,102,103,104,105,106,107,108]]
theorem Qfq(g p:Nat)(w:World)(h:Fg w g p)(hp:p<=900000000):
  Calls prog 47 #[g] w (fun e w'=>∃s,e=.returned (.string ⟨(39::(s++[39]):List UInt8).toArray⟩)/\Dy s=true/\Fg w' g (p+1)/\w.grownBy w' (some g)):=by
 have hgl:=h.lt;have HR:=Aa h;clear h;go_enter func47,ntmps47;go_wp2_with fail;refine(Bp g p 6 _ (HR.o.dalloc _) aH aH aH).mono ?_;rintro e w1 ⟨x,rfl,hx1,_,hR1,hg1⟩;have hx:x<Qdn.length:=by show x<6;omega
 obtain⟨b,hbm,hcell⟩:=((Kh.new w Qdn).grown hg1 aH).cell hx;have hbl:Dy b=true:=(show ∀b∈Qdn,Dy b=true by decide) b hbm;have hbn:b.length<=12:=(show ∀b∈Qdn,b.length<=12 by decide) b hbm;have i1:(0:Int)<=(x:Int):=aH;have i2:(x:Int)<6:=aH;have HR1:=Aa hR1;have Hg1:=Aa (Ae (World.grownBy_alloc w _ (some g)) hg1);have Hbl:=Aa hbl;clear hR1 hg1 hbm HR hx hx1 hbl;go_wp2_with fail;go_ret;exact⟨b,by simp,Hbl.o,HR1.o,Hg1.o⟩
section
variable {S:List Ty} {k:Kd}
theorem Zk{c:UInt8}(hs0:k.signs=[])(hb:k.base=[c])(hc:c≠64):Be k=[c]:=by
 unfold Be B6;rw[hs0,hb];by_cases h:([c]:List UInt8)=[64]
 ·injection h with h;exact absurd h hc
 simp[h]
end
theorem Qpb(S:List Ty)(k:Kd)(hs0:k.signs=[])(hb:k.base=[110])(xv:Value)(d:Int)(N:Nat)(g p:Nat)(w:World)(hR:Fg w g p)(hp:p<=900000000):
  Calls prog 23 #[g,xv,.string ⟨(Be k).toArray⟩,.int .i64 d] w (Ka S k (N+1) 100 w g p):=by
 have hgl:=hR.lt;have HR:=Aa hR;have Hk:=Aa (Zk hs0 hb aJ);have HS0:=Aa hs0;have HB0:=Aa hb;rw[Hk.o];clear hR hs0 hb;go_enter func23,ntmps23;go_wp2_with fail;obtain⟨W1,hW1⟩:∃W1,W1=w.alloc (.cells #[([110]:List UInt8),a6,.slice none 0 0,.slice none 0 0] 99):=⟨_,rfl⟩
 have hz1:W1.heap.size=w.heap.size+1:=cm;have HS1:=@Aa (Ej (w.heap.size+1) w.heap.size W1 ([110]:List UInt8) a6 (.slice none 0 0) (.slice none 0 0) (.slice none 0 0) (.slice none 0 0) [] []) cZ;have HR1:=Aa (show Fg W1 g p by rw[hW1];exact HR.o.dalloc _);have Hg1:=Aa (show w.grownBy W1 (some g)by rw[hW1];exact World.grownBy_alloc w _ _);rw[<-hW1];clear hW1 HR;refine(Bp g p 200 _ HR1.o aH aH aH).mono ?_;rintro e w2 ⟨x,rfl,hx1,_,hR2,hg2⟩;have hx:x<=999999:=aH;have HS2:=Aa (HS1.o.gr hg2 hgl);have HR2:=Aa hR2;have Hg2:=Aa (Ae Hg1.o hg2);have hz2:=hg2.size;clear hR2 hg2 hx1 HS1 HR1 Hg1;go_wp2_with fail;obtain⟨ms,hms,hml,hme⟩:∃ms:List Nat,(∀m∈ms,m<=999999)/\ms.length=8/\(#[.int .i64 0,.int .i64 5,(x:Int),.int .i64 127,.int .i64 128,.int .i64 16383,.int .i64 16384,.int .i64 999999]:Array Value)=(D4 ms).toArray:=⟨[0,5,x,127,128,16383,16384,999999],by simp;omega,rfl,by simp[D4]⟩
 rw[hme];refine(Bp g (p+1) 8 _ (HR2.o.dalloc _) aH aH aH).mono ?_;rintro e w3 ⟨y,rfl,hy1,_,hR3,hg3⟩;have hy:y<ms.length:=aH;obtain⟨m,hmm,hcell⟩:=((Yg.new w2 ms).grown hg3 aH).cell hy;have hm9:=hms m hmm;have i1:(0:Int)<=(y:Int):=aH;have i2:(y:Int)<8:=aH;have HS3:=Aa ((HS2.o.after ((Ap _ _).alloc (An _) _)).gr hg3 hgl);have HR3:=Aa hR3;have Hg3:=Aa (Ae Hg2.o (Ae (World.grownBy_alloc w2 _ (some g)) hg3));clear hR3 hg3 hy1 hy HS2 HR2 Hg2 hms hmm hme;go_wp2_with fail;refine(Gr m m _ (An _) aH).mono ?_;rintro e w4 ⟨rfl,hb4⟩;have HS4:=Aa (HS3.o.after hb4);have HR4:=Aa (HR3.o.below hb4);have Hg4:=Aa (Ae Hg3.o (By hb4 (some g)));have hdl:=Dk 5 m aH;clear hb4 HS3 HR3 Hg3 hcell;have c1:=HS4.o.c1;have f1:=HS4.o.bk.live 1;go_wp2_with fail;go_ret;refine⟨w.heap.size,.mk 110 (Bb m) 0 [],p+1+1,rfl,.n HS0.o HB0.o hm9,by simp[Bc,Ed,Jg];omega,by omega,?_,HR4.o.row (Ao _ w 1 _) (base:=w.heap.size) (fun k e=>by injection e with e;omega) hgl,Fx Hg4.o (Ao _ w 1 _) (base:=w.heap.size) (fun k e=>by injection e with e;omega) (An _)⟩;have:=(HS4.o.set1 (Bb m:List UInt8)).done aK aK;rw[Qac,Hk.o];exact this
theorem Qpq(S:List Ty)(k:Kd)(hs0:k.signs=[])(hb:k.base=[116])(xv:Value)(d:Int)(N:Nat)(g p:Nat)(w:World)(hR:Fg w g p)(hp:p<=900000000):
  Calls prog 23 #[g,xv,.string ⟨(Be k).toArray⟩,.int .i64 d] w (Ka S k (N+1) 100 w g p):=by
 have hgl:=hR.lt;have HR:=Aa hR;have Hk:=Aa (Zk hs0 hb aJ);have HS0:=Aa hs0;have HB0:=Aa hb;rw[Hk.o];clear hR hs0 hb;go_enter func23,ntmps23;go_wp2_with fail;obtain⟨W1,hW1⟩:∃W1,W1=w.alloc (.cells #[([116]:List UInt8),a6,.slice none 0 0,.slice none 0 0] 99):=⟨_,rfl⟩
 have hz1:W1.heap.size=w.heap.size+1:=cm;have HS1:=@Aa (Ej (w.heap.size+1) w.heap.size W1 ([116]:List UInt8) a6 (.slice none 0 0) (.slice none 0 0) (.slice none 0 0) (.slice none 0 0) [] []) cZ;have HR1:=Aa (show Fg W1 g p by rw[hW1];exact HR.o.dalloc _);have Hg1:=Aa (show w.grownBy W1 (some g)by rw[hW1];exact World.grownBy_alloc w _ _);rw[<-hW1];clear hW1 HR;refine(Qfq g p _ HR1.o aH).mono ?_;rintro e w2 ⟨s,rfl,hs,hR2,hg2⟩;have HS2:=Aa (HS1.o.gr hg2 hgl);have HR2:=Aa hR2;have Hg2:=Aa (Ae Hg1.o hg2);have Hs:=Aa hs;have hsl:s.length<=12:=by have:=hs;unfold Dy at this;simp at this;exact this.1
 clear hR2 hg2 HS1 HR1 Hg1 hs;have c1:=HS2.o.c1;have f1:=HS2.o.bk.live 1;go_wp2_with fail;go_ret;refine⟨w.heap.size,.mk 116 s 0 [],p+1,rfl,.t HS0.o HB0.o Hs.o,by simp[Bc,Ed,Jg];omega,by omega,?_,HR2.o.row (Ao _ w 1 _) (base:=w.heap.size) (fun k e=>by injection e with e;omega) hgl,Fx Hg2.o (Ao _ w 1 _) (base:=w.heap.size) (fun k e=>by injection e with e;omega) (An _)⟩;have:=(HS2.o.set1 (.string ⟨(39::(s++[39]):List UInt8).toArray⟩)).done aK aK;rw[Vt,Hk.o];exact this
theorem Qps(S:List Ty)(k:Kd)(hs0:k.signs=[])(hb:k.base=[102])(xv:Value)(d:Int)(N:Nat)(g p:Nat)(w:World)(hR:Fg w g p)(hp:p<=900000000):
  Calls prog 23 #[g,xv,.string ⟨(Be k).toArray⟩,.int .i64 d] w (Ka S k (N+1) 100 w g p):=by
 have hgl:=hR.lt;have HR:=Aa hR;have Hk:=Aa (Zk hs0 hb aJ);have HS0:=Aa hs0;have HB0:=Aa hb;rw[Hk.o];clear hR hs0 hb;go_enter func23,ntmps23;go_wp2_with fail;obtain⟨W1,hW1⟩:∃W1,W1=w.alloc (.cells #[([102]:List UInt8),a6,.slice none 0 0,.slice none 0 0] 99):=⟨_,rfl⟩
 have hz1:W1.heap.size=w.heap.size+1:=cm;have HS1:=@Aa (Ej (w.heap.size+1) w.heap.size W1 ([102]:List UInt8) a6 (.slice none 0 0) (.slice none 0 0) (.slice none 0 0) (.slice none 0 0) [] []) cZ;have HR1:=Aa (show Fg W1 g p by rw[hW1];exact HR.o.dalloc _);have Hg1:=Aa (show w.grownBy W1 (some g)by rw[hW1];exact World.grownBy_alloc w _ _);rw[<-hW1];clear hW1 HR;refine(Bp g p 2 _ (HR1.o.dalloc _) aH aH aH).mono ?_;rintro e w2 ⟨x,rfl,hx1,_,hR2,hg2⟩;have hx:x < [Fa,Nq].length:=by show x<2;omega
 obtain⟨s,hsm,hcell⟩:=((Kh.new W1 [Fa,Nq]).grown hg2 aH).cell hx;rw[hz1]at hcell;obtain⟨b,rfl⟩:∃b:Bool,s=if b then Fa else Nq:=by
  simp at hsm;rcases hsm with rfl|rfl
  ·exact⟨true,rfl⟩
  exact⟨false,rfl⟩
 have i1:(0:Int)<=(x:Int):=aH;have i2:(x:Int)<2:=aH;have HS2:=Aa ((HS1.o.after ((Ap _ _).alloc (An _) _)).gr hg2 hgl);have HR2:=Aa hR2;have Hg2:=Aa (Ae Hg1.o (Ae (World.grownBy_alloc W1 _ (some g)) hg2));have hsl:(if b then Fa else Nq).length<=3:=by cases b<;>decide
 have Hok:=Aa (fun(h0:k.signs=[]) (h1:k.base=[102])=>Jf.f (S:=S) (d:=N) (k:=k) (b:=b) h0 h1);generalize (if b then Fa else Nq)=s at *;clear hR2 hg2 HS1 HR1 Hg1 hx1 hx hsm;have c1:=HS2.o.c1;have f1:=HS2.o.bk.live 1;go_wp2_with fail;go_ret;refine⟨w.heap.size,.mk 102 s 0 [],p+1,rfl,Hok.o HS0.o HB0.o,by simp[Bc,Ed,Jg];omega,by omega,?_,HR2.o.row (Ao _ w 1 _) (base:=w.heap.size) (fun k e=>by injection e with e;omega) hgl,Fx Hg2.o (Ao _ w 1 _) (base:=w.heap.size) (fun k e=>by injection e with e;omega) (An _)⟩;have:=(HS2.o.set1 (s:List UInt8)).done aK aK;rw[Xf,Hk.o];exact this
def Vs(xs:List (Ty × Value))(xv:Value)(k:Kd)(d:Int)(N B:Nat):Prop:=∀(g p:Nat) (W:World),Gl W xv xs->Fg W g p->p+B<=900000000 ->
 Calls prog 23 #[g,xv,.string ⟨(Be k).toArray⟩,.int .i64 d] W (Ka (Af xs) k N B W g p)
def DvF(S:List Ty)(k:Kd)(N B p:Nat)(sv:SV)(q:Nat):Prop:=∃v,sv=Ci S k v/\Jf S N k v/\(Bc v).length<=B/\q<=p+B
theorem Zq(c:UInt8)(ps:List (List UInt8))(p:List UInt8):(Aw c (ps++[p])).length<=(Aw c ps).length+p.length+1:=by
 rw[Bz,Bz];unfold Dq;rw[az,List.sum_append];simp;omega
theorem Qge(xs:List (Ty × Value))(A0:Option Addr)(c0:Nat)(k:Kd)(sg:List UInt8)(hsg:k.signs=91::sg)(hk:Cq k)(d:Int)(hd:-1000<=d)(hd2:d<=1000)(N B:Nat)(H:0<d->Vs xs (.slice A0 xs.length c0) k.part (d - 1) N B)(hB:100<=B):Vs xs (.slice A0 xs.length c0) k d (N+1) (8*B+100):=by
 intro g p w hsc hR hp;have hgl:=hR.lt;have HR:=Aa hR;have HSc:=Aa hsc;have hkp:Be k=91::Be k.part:=dO;have hkl:(Be k).length<=100:=cj;have Hsv:=Aa (fun ks=>hkp ▸ Rq (Af xs) k ks);have Hok:=Aa (fun ks (hl:ks.length<=20) (h:∀x∈ks,Jf (Af xs) N k.part x)=>Jf.lst (S:=Af xs) hsg hl h);unfold Vs at H;rw[hkp]at hkl ⊢;generalize Be k.part=kp at *;have HC:=Aa H;have hkl2:kp.length<=100:=dM;obtain⟨xv,hxv⟩:∃xv:Value,xv=.slice A0 xs.length c0:=⟨_,rfl⟩
 rw[<-hxv]at HSc HC ⊢;clear hR hsc hkp hsg hkl hk H hxv;go_enter func23,ntmps23;go_wp2_with fail;obtain⟨W1,hW1⟩:∃W1,W1=w.alloc (.cells #[(91::kp:List UInt8),a6,.slice none 0 0,.slice none 0 0] 99):=⟨_,rfl⟩
 have hz1:W1.heap.size=w.heap.size+1:=cm;have HS1:=@Aa (Ej (w.heap.size+1) w.heap.size W1 (91::kp:List UInt8) a6 (.slice none 0 0) (.slice none 0 0) (.slice none 0 0) (.slice none 0 0) [] []) cZ;have HR1:=Aa (show Fg W1 g p by rw[hW1];exact HR.o.dalloc _);have Hg1:=Aa (show w.grownBy W1 (some g)by rw[hW1];exact World.grownBy_alloc w _ _);rw[<-hW1];clear hW1;refine(Bp g p 4 _ HR1.o aH aH aH).mono ?_;rintro e w2 ⟨y,rfl,hy1,_,hR2,hg2⟩;have hy:y<=3:=aH;have HS2:=Aa (HS1.o.gr hg2 hgl);have HR2:=Aa hR2;have Hg2:=Aa (Ae Hg1.o hg2);clear hR2 hg2 hy1 HS1 HR1 Hg1;go_wp2_with fail;go_loopw [10] (fun m wr=>∃(x q:Nat) (A:Option Addr) (c:Nat) (xk:List (Nat × SV)),m=(x:Int)/\xk.length+x<=3/\q<=p+1+xk.length*B/\Hid (∃ks:List Vl,xk.map (·.2)=ks.map (Ci (Af xs) k.part)/\(∀v∈ks,Jf (Af xs) N k.part v)/\(Aw 44 (ks.map Bc)).length<=xk.length*(B+1))/\Hid (Fg wr g q)/\Hid (w.grownBy wr (some g))/\Hid (Ej (w.heap.size+1) w.heap.size wr (91::kp:List UInt8) a6 (.slice none 0 0) (.slice none 0 0) (.slice A xk.length c) (.slice A xk.length c) [] xk)) (fun m _=>(intOf m).toNat)
 case atStart=>exact⟨y,p+1,none,0,[],rfl,by simp;omega,by simp,⟨[],rfl,by simp,by simp[Aw]⟩,HR2.o,Hg2.o,HS2.o⟩
 case round=>
  obtain⟨x,q,A,c,xk,rfl,hxl,hq,hks,hRr,hgr,hSr⟩:=hrel;have hx0:(0:Int)<=(x:Int):=aH;have hzr:w.heap.size+1<=wr.heap.size:=hSr.o.bs;by_cases hgo:0<x/\0<d
  ·obtain⟨hx,hdp⟩:=hgo;have hxi:(0:Int)<(x:Int):=aH;have hqB:q+B<=900000000:=by
    have:xk.length*B<=2*B:=Nat.mul_le_mul_right _ aH;omega
   have HC2:=Aa (HC.o hdp);have hwd:IntKind.i64.wrap (d - 1)=d - 1:=IntWalk.i64_in _ aH;go_upto_region 16 with fail
   obtain⟨W9,hW9⟩:∃W9,W9=wr.drew:=⟨_,rfl⟩
   have HS9:=@Aa (Ej (w.heap.size+1) w.heap.size W9 (91::kp:List UInt8) a6 (.slice none 0 0) (.slice none 0 0) (.slice A xk.length c) (.slice A xk.length c) [] xk) (by rw[hW9];exact hSr.o.after (Ap _ _).drew);have HR9:=Aa (show Fg W9 g q by rw[hW9];exact hRr.o.ddrew);have Hg9:=Aa (show w.grownBy W9 (some g)by rw[hW9];exact Jd hgr.o);have HX9:=@Aa (Gl W9 xv xs) (HSc.o.grown HR.o Hg9.o);have HW9:=Aa hW9;clear hW9;have HC:=HC2;clear HC2;refine Jo [61,62,63,64,65,66,67,68,69,70,71,72,73,74,75,76,999]
    (fun ix v W=>match ix with|0=>v=w.heap.size|1=>v=w.heap.size|2=>v=w.heap.size|3=>v=(w,3)|4=>v=.slice A xk.length c|5=>v=g|6=>v=xv|7=>v=(91::kp:List UInt8)|8=>v=(kp:List UInt8)|9=>v=.int .i64 d|10=>v=.int .i64 (d - 1)|14=>v=w.heap.size|15=>v=(w,3)|_=>True)
    (fun L U W=>Nr w g (w.heap.size+1) w.heap.size W9 (91::kp:List UInt8) a6 (.slice none 0 0) A c [] xk (DvF (Af xs) k.part N B q) (L 11) (L 12) (L 13) (L 16) (U 11) (U 12) (U 13) W) (by rw[<-HW9.o];exact Nr.start) ?_ ?_
   ·repeat (first|exact Ak.nil|(refine Ak.cons ?_ ?_;rotate_left))
    all_goals
     rintro L U W hL hpre HR Hdep K hK;first|(simp[Region.binds]at hpre;done)|simp[Region.binds]at hpre|clear hpre
    iterate 4
     ·exact ip
    ·exact jq
    iterate 3
     ·exact ip
    ·exact jI
    iterate 2
     ·exact ip
    ·exact iW
    ·exact j9
    ·obtain⟨l4,u4⟩:L 4=true/\U 4=.slice A xk.length c:=by
      exact lZ
     have l12:L 12=true:=bB;have l11:L 11=true:=Pc (Az Hdep.o 12 11 rfl) l12;have h16:L 16=false:=Az Hdep.o 16 13 rfl hL;obtain⟨W8,b8,v8,q8,hW,u12,hF,hR8,hg8,hv8,hL8⟩:=HR.o.s2 l12 hL;subst hW;rw[if_pos cx];refine Fl W8 (.tmp 65) (.tmp 73) 97 rfl (w.heap.size+1) 62 (.pointer none) 1 8 underlying97 Tm rfl aJ [b8] rfl bh (.slice A xk.length c) xk.length (D7 (xk.map (·.1))) u4 u12 hL8.row aU aH hL8.bs ?_;exact m6
    iterate 2
     ·exact ip
    ·exact iZ
   rintro L U W hL hφ hR;clear hφ;obtain⟨b6,v6,q6,A6,c6,⟨v7,rfl,k1,k2,k3⟩,hR6,hg6,hS6⟩:=hR.s4 (hL 16 aJ);obtain⟨ks,g1,g2,g3⟩:=hks.o;have el:(xk++[(b6,Ci (Af xs) k.part v7)]).length=xk.length+1:=aK
   have Hks:=Aa (show ∃ks:List Vl,(xk++[(b6,Ci (Af xs) k.part v7)]).map (·.2)=ks.map (Ci (Af xs) k.part)/\(∀v∈ks,Jf (Af xs) N k.part v)/\(Aw 44 (ks.map Bc)).length<=(xk++[(b6,Ci (Af xs) k.part v7)]).length*(B+1)from⟨ks++[v7],by simp[g1],fun v hv=>by rcases af.1 hv with h|h;exact g2 v h;rw[aq]at h;subst h;exact k1,by
    rw[az,el,Nat.succ_mul];exact ad (Zq 44 (ks.map Bc) (Bc v7)) aH⟩)
   have HR6:=Aa hR6;have Hg6:=Aa hg6;have HS6:=Aa hS6;have hq6:q6<=p+1+(xk.length+1)*B:=by rw[Nat.succ_mul];omega
   clear hR hL hR6 hg6 hS6 k1 k2 k3 g1 g2 g3;go_wp2_with fail;go_roundw
   case rel=>exact⟨x - 1,q6,A6,c6,xk++[(b6,Ci (Af xs) k.part v7)],by go_num,by rw[el];omega,by rw[el];exact hq6,Hks.o,HR6.o,Hg6.o,by rw[el];exact HS6.o⟩
   case measure=>simp[intOf];omega
  ·have hfin:∀W,W=wr->True:=fun _ _=>Ac
   have HQ:=Aa (show Ka (Af xs) k (N+1) (8*B+100) w g p (.returned w.heap.size) wr from by
    obtain⟨ks,g1,g2,g3⟩:=hks.o;have hkl:ks.length=xk.length:=by have:=congrArg List.length g1;simpa using this.symm
    have h3:xk.length*(B+1)<=3*(B+1):=Nat.mul_le_mul_right _ aH;have h4:xk.length*B<=3*B:=Nat.mul_le_mul_right _ aH;refine⟨w.heap.size,.mk 91 [] 0 ks,q,rfl,Hok.o ks aH g2,by rw[Jt];simp;omega,by omega,?_,hRr.o,hgr.o⟩;have:=hSr.o.done aK aH;rw[Hsv.o,<-g1];exact this)
   have HQd:=Aa (show Ka (Af xs) k (N+1) (8*B+100) w g p (.returned w.heap.size) wr.drew from by
    obtain⟨b,v,q,h1,h2,h3,h4,h5,h6,h7⟩:=HQ.o;exact⟨b,v,q,h1,h2,h3,h4,h5.after (Ap _ _).drew,h6.ddrew,Jd h7⟩)
   by_cases hx:0<x
   ·have hxi:(0:Int)<(x:Int):=aH;have hdn:¬(0:Int)<d:=fun h=>hgo ⟨hx,h⟩;go_wp2_with fail;go_ret;first|exact HQ.o|exact HQd.o
   have hxi:¬(0:Int)<(x:Int):=aH;go_wp2_with fail;go_ret;first|exact HQ.o|exact HQd.o
theorem Qgq(xs:List (Ty × Value))(A0:Option Addr)(c0:Nat)(k:Kd)(sg:List UInt8)(hsg:k.signs=63::sg)(hk:Cq k)(d:Int)(hd:-1000<=d)(hd2:d<=1000)(N B:Nat)(H:0<d->Vs xs (.slice A0 xs.length c0) k.part (d - 1) N B)(hB:100<=B):Vs xs (.slice A0 xs.length c0) k d (N+1) (8*B+100):=by
 intro g p w hsc hR hp;have hgl:=hR.lt;have HR:=Aa hR;have HSc:=Aa hsc;have hkp:Be k=63::Be k.part:=dO;have hkl:(Be k).length<=100:=cj;have Hsv:=Aa (fun ks=>hkp ▸ Md (Af xs) k ks);have Hno:=Aa (Jf.non (S:=Af xs) (d:=N) hsg);have Hsm:=Aa (fun x (h:Jf (Af xs) N k.part x)=>Jf.som (S:=Af xs) hsg h);unfold Vs at H;rw[hkp]at hkl ⊢;generalize Be k.part=kp at *;have HC0:=Aa H;have hkl2:kp.length<=100:=dM;obtain⟨xv,hxv⟩:∃xv:Value,xv=.slice A0 xs.length c0:=⟨_,rfl⟩
 rw[<-hxv]at HSc HC0 ⊢;clear hR hsc hkp hsg hkl hk H hxv;by_cases hdp:0<d
 ·go_enter func23,ntmps23;go_wp2_with fail;obtain⟨W1,hW1⟩:∃W1,W1=w.alloc (.cells #[(63::kp:List UInt8),a6,.slice none 0 0,.slice none 0 0] 99):=⟨_,rfl⟩
  have hz1:W1.heap.size=w.heap.size+1:=cm;have HS1:=@Aa (Ej (w.heap.size+1) w.heap.size W1 (63::kp:List UInt8) a6 (.slice none 0 0) (.slice none 0 0) (.slice none 0 0) (.slice none 0 0) [] []) cZ;have HR1:=Aa (show Fg W1 g p by rw[hW1];exact HR.o.dalloc _);have Hg1:=Aa (show w.grownBy W1 (some g)by rw[hW1];exact World.grownBy_alloc w _ _)
  have HE:=Aa (fun q W (hq:q<=p+1) (h1:Ej (w.heap.size+1) w.heap.size W (63::kp:List UInt8) a6 (.slice none 0 0) (.slice none 0 0) (.slice none 0 0) (.slice none 0 0) [] []) (h2:Fg W g q) (h3:w.grownBy W (some g))=>show Ka (Af xs) k (N+1) (8*B+100) w g p (.returned w.heap.size) W from by
   refine⟨w.heap.size,.mk 63 [] 0 [],q,rfl,Hno.o,by simp[Bc,Ed,Jg],by omega,?_,h2,h3⟩;have:=h1.done aK aK;rw[Hsv.o];exact this)
  rw[<-hW1];clear hW1;refine(Bp g p 3 _ HR1.o aH aH aH).mono ?_;rintro e w2 ⟨y,rfl,hy1,_,hR2,hg2⟩;have HS2:=Aa (HS1.o.gr hg2 hgl);have HR2:=Aa hR2;have Hg2:=Aa (Ae Hg1.o hg2);clear hR2 hg2 hy1 HS1 HR1 Hg1;have HC:=Aa (HC0.o hdp);have hwd:IntKind.i64.wrap (d - 1)=d - 1:=IntWalk.i64_in _ aH;by_cases hy:0<y
  ·have hyi:(0:Int)<(y:Int):=aH;have hqB:p+1+B<=900000000:=aH;obtain⟨q,hq⟩:∃q,q=p+1:=⟨_,rfl⟩
   rw[<-hq]at hqB HR2;obtain⟨xk,hxk⟩:∃xk:List (Nat × SV),xk=[]:=⟨_,rfl⟩
   obtain⟨A,hA⟩:∃A:Option Addr,A=none:=⟨_,rfl⟩
   obtain⟨c,hc⟩:∃c:Nat,c=0:=⟨_,rfl⟩
   have hxl:xk.length<=3:=by rw[hxk];simp
   have HSq:=@Aa (Ej (w.heap.size+1) w.heap.size w2 (63::kp:List UInt8) a6 (.slice none 0 0) (.slice none 0 0) (.slice A xk.length c) (.slice A xk.length c) [] xk) (by subst hxk hA hc;exact HS2.o);have Hxk:=Aa hxk;clear hxk hA hc HS2;go_upto_region 20 with fail
   obtain⟨W9,hW9⟩:∃W9,W9=w2.drew:=⟨_,rfl⟩
   have HS9:=@Aa (Ej (w.heap.size+1) w.heap.size W9 (63::kp:List UInt8) a6 (.slice none 0 0) (.slice none 0 0) (.slice A xk.length c) (.slice A xk.length c) [] xk) (by rw[hW9];exact HSq.o.after (Ap _ _).drew);have HR9:=Aa (show Fg W9 g q by rw[hW9];exact HR2.o.ddrew);have Hg9:=Aa (show w.grownBy W9 (some g)by rw[hW9];exact Jd Hg2.o);have HX9:=@Aa (Gl W9 xv xs) (HSc.o.grown HR.o Hg9.o);have HW9:=Aa hW9;clear hW9;refine Jo [87,88,89,90,91,92,93,94,95,96,97,98,99,100,101,102,999]
    (fun ix v W=>match ix with|0=>v=w.heap.size|1=>v=w.heap.size|2=>v=w.heap.size|3=>v=(w,3)|4=>v=.slice A xk.length c|5=>v=g|6=>v=xv|7=>v=(63::kp:List UInt8)|8=>v=(kp:List UInt8)|9=>v=.int .i64 d|10=>v=.int .i64 (d - 1)|14=>v=w.heap.size|15=>v=(w,3)|_=>True)
    (fun L U W=>Nr w g (w.heap.size+1) w.heap.size W9 (63::kp:List UInt8) a6 (.slice none 0 0) A c [] xk (DvF (Af xs) k.part N B q) (L 11) (L 12) (L 13) (L 16) (U 11) (U 12) (U 13) W) (by rw[<-HW9.o];exact Nr.start) ?_ ?_
   ·repeat (first|exact Ak.nil|(refine Ak.cons ?_ ?_;rotate_left))
    all_goals
     rintro L U W hL hpre HR Hdep K hK;first|(simp[Region.binds]at hpre;done)|simp[Region.binds]at hpre|clear hpre
    iterate 4
     ·exact ip
    ·exact jq
    iterate 3
     ·exact ip
    ·exact jI
    iterate 2
     ·exact ip
    ·exact iW
    ·exact j9
    ·obtain⟨l4,u4⟩:L 4=true/\U 4=.slice A xk.length c:=by
      exact lZ
     have l12:L 12=true:=bB;have l11:L 11=true:=Pc (Az Hdep.o 12 11 rfl) l12;have h16:L 16=false:=Az Hdep.o 16 13 rfl hL;obtain⟨W8,b8,v8,q8,hW,u12,hF,hR8,hg8,hv8,hL8⟩:=HR.o.s2 l12 hL;subst hW;rw[if_pos cx];refine Fl W8 (.tmp 91) (.tmp 99) 97 rfl (w.heap.size+1) 62 (.pointer none) 1 8 underlying97 Tm rfl aJ [b8] rfl bh (.slice A xk.length c) xk.length (D7 (xk.map (·.1))) u4 u12 hL8.row aU aH hL8.bs ?_;exact m6
    iterate 2
     ·exact ip
    ·exact iZ
   rintro L U W hL hφ hR;clear hφ;obtain⟨b6,v6,q6,A6,c6,⟨v7,rfl,k1,k2,k3⟩,hR6,hg6,hS6⟩:=hR.s4 (hL 16 aJ)
   have HF:=Aa (show Ka (Af xs) k (N+1) (8*B+100) w g p (.returned w.heap.size) W from by
    refine⟨w.heap.size,.mk 63 [] 0 [v7],q6,rfl,Hsm.o v7 k1,by simp[Bc,Ed,Jg,Aw];omega,by omega,?_,hR6,hg6⟩;have el:(xk++[(b6,Ci (Af xs) k.part v7)]).length=xk.length+1:=aK;rw[<-el]at hS6;have:=hS6.done aK aM;rw[Hsv.o];rw[Hxk.o]at this;exact this)
   clear hR hL hR6 hg6 hS6 k1 k2 k3;go_wp2_with fail;go_ret;exact HF.o
  have hyi:¬(0:Int)<(y:Int):=aH;have HF:=Aa (HE.o (p+1) w2 (An _) HS2.o HR2.o Hg2.o);go_wp2_with fail;go_ret;exact HF.o
 go_enter func23,ntmps23;go_wp2_with fail;obtain⟨W1,hW1⟩:∃W1,W1=w.alloc (.cells #[(63::kp:List UInt8),a6,.slice none 0 0,.slice none 0 0] 99):=⟨_,rfl⟩
 have hz1:W1.heap.size=w.heap.size+1:=cm;have HS1:=@Aa (Ej (w.heap.size+1) w.heap.size W1 (63::kp:List UInt8) a6 (.slice none 0 0) (.slice none 0 0) (.slice none 0 0) (.slice none 0 0) [] []) cZ;have HR1:=Aa (show Fg W1 g p by rw[hW1];exact HR.o.dalloc _);have Hg1:=Aa (show w.grownBy W1 (some g)by rw[hW1];exact World.grownBy_alloc w _ _)
 have HE:=Aa (fun q W (hq:q<=p+1) (h1:Ej (w.heap.size+1) w.heap.size W (63::kp:List UInt8) a6 (.slice none 0 0) (.slice none 0 0) (.slice none 0 0) (.slice none 0 0) [] []) (h2:Fg W g q) (h3:w.grownBy W (some g))=>show Ka (Af xs) k (N+1) (8*B+100) w g p (.returned w.heap.size) W from by
  refine⟨w.heap.size,.mk 63 [] 0 [],q,rfl,Hno.o,by simp[Bc,Ed,Jg],by omega,?_,h2,h3⟩;have:=h1.done aK aK;rw[Hsv.o];exact this)
 have HF:=Aa (HE.o p W1 aH HS1.o HR1.o Hg1.o);rw[<-hW1];clear hW1;go_ret;exact HF.o
end
end Go.Proofs.YtbdibdghphdcdaaGreatDoor
