/- Texts joined. Conditions: as each theorem names them. -/
import Derived.Deep.CutRange
import Derived.Deep.DeepCutAuto
import Derived.Test.YtmmhmlmfhpfgbaaGreatDoorF20
set_option maxRecDepth 100000
set_option maxHeartbeats 32000000
set_option linter.unusedVariables false
set_option linter.unusedSimpArgs false
namespace Go.Proofs.YtmmhmlmfhpfgbaaGreatDoor
open Go.RowKit Go.Proofs.Tryz
section
attribute [local go_sem] Qoe Qnf Qmu Qk2 ByteArray.mk_append_mk
structure Er(g B12 B:Nat)(c0 c1 cf:Value)(W0 W:World)(fs:List Fd)(fv:Value)(q:Nat):Prop where
 rdr:Fg W g q
 grown:W0.grownBy W (some g)
 old:W.rangeAt B12 0 [c0,c1,cf]
 new:W.rangeAt B 0 [c0,c1,fv]
 there:W.there B 0 3
 row:W.ownsRow (B+1) 157 4 fv fs.length (fs.flatMap Ky)
 lt:g<B12/\B12<B/\B<W.heap.size/\W0.heap.size<=B12
theorem Zc{W W':World}{b o:Nat}{cs:List Value}{r:Option Nat}(h:W.rangeAt b o cs)(hb:b<W.heap.size)(hg:W.grownBy W' r)(hne:some b≠r):W'.rangeAt b o cs:=fun j v hv=>
 (World.cell?_of_block (a:=⟨b,o+j,none⟩) (hg.block b hb hne)).trans (h j v hv)
theorem Qjj{W W':World}{b o n:Nat}{r:Option Nat}(h:W.there b o n)(hb:b<W.heap.size)(hg:W.grownBy W' r)(hne:some b≠r):W'.there b o n:=fun j hj=>by
 obtain⟨h1,h2⟩:=h j hj;have e:=hg.block b hb hne;refine⟨by rw[World.cell?_of_block (a:=⟨b,o+j,none⟩) e];exact h1,?_⟩;have e2:W'.frozen? ⟨b,o+j,none⟩=W.frozen? ⟨b,o+j,none⟩:=by simp only[World.frozen?,e]
 rw[e2];exact h2
theorem Er.pick{g B12 B:Nat}{c0 c1 cf:Value}{W0 W W':World}{fs:List Fd}{fv:Value}{q q':Nat}(h:Er g B12 B c0 c1 cf W0 W fs fv q)(hg:W.grownBy W' (some g))(hR:Fg W' g q'):Er g B12 B c0 c1 cf W0 W' fs fv q':=by
 obtain⟨l1,l2,l3,l4⟩:=h.lt;have hz:=hg.size
 exact⟨hR,Ae h.grown hg,Zc h.old aH hg (fun e=>by injection e with e;omega),Zc h.new aH hg (fun e=>by injection e with e;omega),Qjj h.there aH hg (fun e=>by injection e with e;omega),
  h.row.kept hg (.inr fun e=>by have:=(h.row.lt _ e).1;omega),⟨l1,l2,by omega,l4⟩⟩
theorem Er.below{g B12 B:Nat}{c0 c1 cf:Value}{W0 W W':World}{fs:List Fd}{fv:Value}{q:Nat}(h:Er g B12 B c0 c1 cf W0 W fs fv q)(hb:Below W W W'):Er g B12 B c0 c1 cf W0 W' fs fv q:=
 h.pick (Cc hb _) (h.rdr.below hb)
theorem Er.block{g B12 B:Nat}{c0 c1 cf:Value}{W0 W:World}{fs:List Fd}{fv:Value}{q:Nat}(h:Er g B12 B c0 c1 cf W0 W fs fv q):∀k,fv.ownBlock=some k->B<k/\k<W.heap.size:=fun k hk=>by
 have:=h.row.lt k hk;omega
structure Rs(B16:Nat)(f:Fd)(B:Nat)(fv:Value)(W:World):Prop where
 cells:W.rangeAt B16 0 (Ky f)
 there:W.there B16 0 4
 lt:B<B16/\B16<W.heap.size
 own:fv.ownBlock≠some B16
theorem Rs.grown{B16 B g:Nat}{f:Fd}{fv:Value}{W W':World}(h:Rs B16 f B fv W)(hg:W.grownBy W' (some g))(hgb:g<B):Rs B16 f B fv W':=by
 obtain⟨l1,l2⟩:=h.lt;have hz:=hg.size;exact⟨C0 h.cells hg (fun e=>by injection e with e;omega),Eu h.there hg l2 (fun e=>by injection e with e;omega),⟨l1,by omega⟩,h.own⟩
theorem Rs.below{B16 B:Nat}{f:Fd}{fv:Value}{W W':World}(h:Rs B16 f B fv W)(hb:Below W W W'):Rs B16 f B fv W':=
 ⟨Ah h.cells h.lt.2 hb,Aj h.there h.lt.2 hb,⟨h.lt.1,ac h.lt.2 hb.size⟩,h.own⟩
def Jo(o:Option (Nat × Fd))(B:Nat)(fv:Value)(W:World):Prop:=∀b f,o=some (b,f)->Rs b f B fv W
theorem Jo.below{o:Option (Nat × Fd)}{B:Nat}{fv:Value}{W W':World}(h:Jo o B fv W)(hb:Below W W W'):Jo o B fv W':=fun b f e=>(h b f e).below hb
theorem Jo.grown{o:Option (Nat × Fd)}{B g:Nat}{fv:Value}{W W':World}(h:Jo o B fv W)(hg:W.grownBy W' (some g))(hgb:g<B):Jo o B fv W':=fun b f e=>(h b f e).grown hg hgb
structure Qac(g B12 B:Nat)(c0 c1 cf:Value)(W0 W:World)(fs:List Fd)(fv:Value)(q:Nat)(o:Option (Nat × Fd))(f2:Fd)(v:Value):Prop where
 rdr:Fg W g q
 grown:W0.grownBy W (some g)
 old:W.rangeAt B12 0 [c0,c1,cf]
 new:W.rangeAt B 0 [c0,c1,fv]
 there:W.there B 0 3
 row:W.ownsRow (B+1) 157 4 v (fs.length+1) (fs.flatMap Ky++Ky f2)
 lt:g<B12/\B12<B/\B<W.heap.size/\W0.heap.size<=B12
 box:Jo o B v W
theorem Er.app{g B12 B:Nat}{c0 c1 cf:Value}{W0 W7 w5:World}{fs:List Fd}{fv v5:Value}{q:Nat}{o:Option (Nat × Fd)}{f2:Fd}(h:Er g B12 B c0 c1 cf W0 W7 fs fv q)(hb:Jo o B fv W7)
  (hown:w5.ownsRow (B+1) 157 4 v5 (fs.length+1) (fs.flatMap Ky++Ky f2)) (hg:W7.grownBy w5 fv.ownBlock) (hw:v5.ownBlock=fv.ownBlock\/∃k,v5.ownBlock=some k/\W7.heap.size<=k):Qac g B12 B c0 c1 cf W0 w5 fs fv q o f2 v5:=by
 obtain⟨l1,l2,l3,l4⟩:=h.lt;have hz:=hg.size;have hfv:=h.block;have ne:∀b,b<=B->some b≠fv.ownBlock:=fun b hbB e=>by have:=(hfv b e.symm).1;omega
 have hgb:Below (B+1) W7 w5:=(Ao _ _).grown hg aH (fun k hk=>by have:=(hfv k hk).1;omega);refine⟨h.rdr.belowg (hgb.mono aH) hz,⟨hg.os.trans h.grown.os,hg.tape.trans h.grown.tape,hg.output.trans h.grown.output,ad h.grown.size hz,fun i hi hne=>(hg.block i (ac hi h.grown.size) (ne i aH)).trans (h.grown.block i hi hne)⟩,C0 h.old hg (ne B12 aH),C0 h.new hg (ne B aH),Eu h.there hg aH (ne B aH),hown,⟨l1,l2,by omega,l4⟩,fun b f e=>?_⟩;obtain⟨b1,b2,b3,b4⟩:=hb b f e;refine⟨C0 b1 hg (fun e=>b4 e.symm),Eu b2 hg b3.2 (fun e=>b4 e.symm),⟨b3.1,by omega⟩,fun e=>?_⟩;rcases hw with hw|⟨k,hk,hk2⟩
 ·exact b4 (hw.symm.trans e)
 rw[hk]at e;exact fy
theorem Qac.store{g B12 B:Nat}{c0 c1 cf:Value}{W0 W:World}{fs:List Fd}{fv v:Value}{q:Nat}{o:Option (Nat × Fd)}{f2:Fd}(h:Qac g B12 B c0 c1 cf W0 W fs fv q o f2 v):
  Er g B12 B c0 c1 cf W0 (W.setCell ⟨B,2,none⟩ v) (fs++[f2]) v q/\Jo o B v (W.setCell ⟨B,2,none⟩ v):=by
 obtain⟨l1,l2,l3,l4⟩:=h.lt;have hg:=Mk W ⟨B,2,none⟩ v;refine⟨⟨h.rdr.belowg (((Ao _ _).setCell (show g+1<=B by omega) _)) aK,⟨h.grown.os,h.grown.tape,h.grown.output,by simp;exact h.grown.size,fun i hi hne=>(hg.block i (ac hi h.grown.size) (fun e=>by injection e with e;simp at e;omega)).trans (h.grown.block i hi hne)⟩,?_,?_,ai h.there B 2 [_],?_,⟨l1,l2,by simpa using l3,l4⟩⟩,fun b f e=>?_⟩
 ·exact C0 h.old hg (fun e=>by injection e with e;simp at e;omega)
 ·exact Cm (l2':=[v]) [c0,c1] [fv] [] h.new rfl
 ·rw[ah,List.flatMap_append];have e:[f2].flatMap Ky=Ky f2:=aK;rw[e];exact h.row.kept hg (.inr fun e=>absurd (h.row.lt _ e).1 aK)
 obtain⟨b1,b2,b3,b4⟩:=h.box b f e;exact⟨C0 b1 hg (fun e=>by injection e with e;simp at e;omega),Eu b2 hg b3.2 (fun e=>by injection e with e;simp at e;omega),⟨b3.1,by simpa using b3.2⟩,b4⟩
theorem Qjg{st:UInt8}{f:Fd}(h:Tj st f):Gu st f:=by
 have hg:=Fq h;obtain⟨h1,h2,h3,h4,h5⟩:=h;have hn:=(Ds.1 h3).2.1;by_cases hs:st=69
 ·exact⟨h2,by omega,by rw[(h4 hs).1];decide,by omega,fun _=>(h4 hs).2⟩
 exact⟨h2,by omega,by have:=(h5 hs).1.2.2;omega,by omega,fun h=>absurd h hs⟩
theorem Qjy{st:UInt8}{n:Nat}{nm kd:List UInt8}(hn:n<=200)(h1:nm.length<=100)(h2:kd.length<=100)(h3:kd≠[64]):∃f2:Fd,(.agg #[(n:Int),nm,kd,a6]:Value)=.agg (Ky f2).toArray/\Gu st f2:=by
 have e:Ax ⟨[],kd,[]⟩=kd:=by unfold Ax Bu;rw[if_neg h3];rfl
 refine⟨⟨n,nm,⟨[],kd,[]⟩,[]⟩,?_,hn,h1,by rw[e];exact h2,by simp,fun _=>rfl⟩;show _=Value.agg #[(n:Int),nm,.string ⟨(Ax ⟨[],kd,[]⟩).toArray⟩,a6];rw[e]
theorem DK.ne{l:List UInt8}(h:DK l):l≠[64]:=by
 rcases h with⟨sg,b,rfl,_,h2,h3⟩|h
 ·cases sg with
  |nil=>exact(show ∀b∈Qd,b≠[64]by decide) b h3
  |cons c r=>
   intro e;rw[av]at e;injection e with e1 e2;have hb:=(show ∀b∈Qd,b≠[]by decide) b h3;have:=congrArg List.length e2;simp only[ah,List.length_nil]at this;exact hb (List.eq_nil_of_length_eq_zero aH)
 exact(show ∀b∈Ro,b≠[64]by decide) l h
theorem Qc0(b:Bool)(x y:List UInt8)(w:World):
  Calls prog 110 #[.bool b,x,y] w fun e w'=>e=.returned (.string ⟨(if b=true then x else y).toArray⟩)/\Below w w w':=by
 cases b with
 |true=>
  go_enter func110,ntmps110;go_wp2_with fail;exact kx
 |false=>
  go_enter func110,ntmps110;go_wp2_with fail;exact kx
theorem Er.setBox{g B12 B B16:Nat}{c0 c1 cf:Value}{W0 W:World}{fs:List Fd}{fv:Value}{q:Nat}(h:Er g B12 B c0 c1 cf W0 W fs fv q)(hB:B<B16)(hne:fv.ownBlock≠some B16)(o:Nat)(v:Value):Er g B12 B c0 c1 cf W0 (W.setCell ⟨B16,o,none⟩ v) fs fv q:=by
 obtain⟨l1,l2,l3,l4⟩:=h.lt;have hg:=Mk W ⟨B16,o,none⟩ v
 exact⟨h.rdr.belowg (((Ao _ _).setCell (show g+1<=B16 by omega) _)) aK,⟨h.grown.os,h.grown.tape,h.grown.output,by simp;exact h.grown.size,fun i hi hne=>(hg.block i (ac hi h.grown.size) (fun e=>by injection e with e;simp at e;omega)).trans (h.grown.block i hi hne)⟩,
  C0 h.old hg (fun e=>by injection e with e;simp at e;omega),C0 h.new hg (fun e=>by injection e with e;simp at e;omega),ai h.there B16 o [_],h.row.kept hg (.inr hne),⟨l1,l2,by simpa using l3,l4⟩⟩
theorem Rs.set{B16 B:Nat}{f:Fd}{fv:Value}{W:World}(h:Rs B16 f B fv W)(l:List UInt8)(hl:l≠[64]):Rs B16 {f with kind:=⟨[],l,[]⟩,given:=[]} B fv ((W.setCell ⟨B16,2,none⟩ l).setCell ⟨B16,3,none⟩ a6):=by
 have ek:Ax ⟨[],l,[]⟩=l:=by unfold Ax Bu;rw[if_neg hl];rfl
 have r1:(W.setCell ⟨B16,2,none⟩ l).rangeAt B16 0 [(f.tag:Int),f.name,l,f.given]:=
  Cm (l2':=[l]) [(f.tag:Int),f.name] [.string ⟨(Ax f.kind).toArray⟩] [f.given] h.cells rfl
 have r2:((W.setCell ⟨B16,2,none⟩ l).setCell ⟨B16,3,none⟩ a6).rangeAt B16 0 [(f.tag:Int),f.name,l,a6]:=
  Cm (l2':=[a6]) [(f.tag:Int),f.name,l] [f.given] [] r1 rfl
 refine⟨?_,ai (ai h.there B16 2 [_]) B16 3 [_],⟨h.lt.1,by simpa using h.lt.2⟩,h.own⟩;show World.rangeAt _ _ _ [(f.tag:Int),f.name,.string ⟨(Ax ⟨[],l,[]⟩).toArray⟩,a6];rw[ek];exact r2
theorem Qii{t:Ty}(h8:t.fields.length<=20)(hn:t.name.length<=100)(hs:∀f∈t.fields,Gu t.sort f):(V8 t++[10]).length<=8200:=by
 have h:=Rp 44 400 (t.fields.map (Kr t.sort)) (fun p hp=>by obtain⟨f,hf,rfl⟩:=ax.1 hp;exact Qb1 (hs f hf));rw[List.length_map]at h;unfold V8;simp;omega
theorem Qmd{W:World}{B:Nat}{A:Option Addr}{n c:Nat}{fs:List Fd}(h:W.ownsRow B 157 4 (.slice A n c) fs.length (fs.flatMap Ky))(hl:fs.length<=1000):Dq W (.slice A n c) fs:=by
 obtain⟨A9,c9,e9,hr9⟩:=B0.ownK h aU;exact⟨A9,c9,e9,hl,hr9⟩
def Qls(w:World)(g p:Nat)(e:Ending)(w':World):Prop:=
 ∃(a b c d:List UInt8) (q:Nat),e=.returned (.tuple #[a,b,c,d])/\a.length<=100000/\b.length<=15/\c.length<=270/\d.length<=15/\q<=p+3000/\Fg w' g q/\w.grownBy w' (some g)
theorem Qco(g p:Nat)(w:World)(h:Fg w g p)(hp:p<=100000):
  Calls prog 51 #[g] w (Qls w g p):=by
 have hgl:=h.lt;have HR:=Aa h;have Hg0:=Aa (World.grownBy.refl w (some g));clear h;go_enter func51,ntmps51;go_wp2_with fail;refine(Nr g p _ HR.o aH).mono ?_;rintro e w1 ⟨s1,q1,rfl,hs1,hq1,hR1,hg1⟩;have HR1:=Aa hR1;have Hg1:=Aa (Ae Hg0.o hg1);have hl1:=hs1.1;have hgl1:=hR1.lt;clear hR1 hg1 hs1;go_wp2_with fail;refine(Qeh g q1 s1 _ HR1.o aH aH).mono ?_;rintro e w2 ⟨s2,q2,rfl,hs2,hq2,hR2,hg2⟩;have HR2:=Aa hR2;have Hg2:=Aa (Ae Hg1.o hg2);have hl2:=hs2.len;have hgl2:=hR2.lt;clear hR2 hg2 hs2;have Ho:=Aa (fun W=>To s1 W aH);have Hgood:=Aa (fun S (h:B9 s1=some S)=>(Jy.1 h).1);generalize B9 s1=o at *;go_wp2_with fail;refine(Ho.o _).mono ?_;rintro e w3 ⟨hc3,hb3⟩;have HR3:=Aa (HR2.o.below hb3);have Hg3:=Aa (Ae Hg2.o (Cc hb3 (some g)));have hgl3:=HR3.o.lt;clear hb3 HR HR1 HR2 Hg0 Hg1 Hg2 Ho;cases o with
 |none=>
  obtain⟨A,n,c,rfl⟩:=hc3;go_wp2_with fail;refine(Nr g q2 _ HR3.o aH).mono ?_;rintro e w4 ⟨s4,q4,rfl,hs4,hq4,hR4,hg4⟩;have HR4:=Aa hR4;have Hg4:=Aa (Ae Hg3.o hg4);have hl4:=hs4.1;have hgl4:=hR4.lt;clear hR4 hg4 hs4;go_wp2_with fail;refine aF (v:=.tuple #[s4,s2,s1,s2]) (by simp[results,results51,go_sem]) rfl ?_;exact⟨s4,s2,s1,s2,q4,rfl,by omega,by omega,by omega,by omega,by omega,HR4.o,Hg4.o⟩
 |some S=>
  obtain⟨v,xs,rfl,hxs,hsc⟩:=hc3;have Hok:=Aa (Hgood.o S rfl);have hx8:xs.length<=8:=by have:=Hok.o.1.2.1;rw[<-hxs]at this;simpa [Ad]using this
  have Hsc:=Aa hsc;have Hxs:=Aa hxs;obtain⟨A,c,rfl,_⟩:=hsc;clear hxs Hgood;go_wp2_with fail;refine(Bs g q2 8 _ HR3.o aH aH aH).mono ?_;rintro e w4 ⟨x,rfl,hx1,_,hR4,hg4⟩;have HR4:=Aa hR4;have Hg4:=Aa (Ae Hg3.o hg4);have Hsc4:=Aa (Hsc.o.grown HR3.o hg4);have hgl4:=hR4.lt;clear hR4 hg4 hx1 HR3 Hg3 Hsc;by_cases hx0:x=0
  ·subst hx0;go_wp2_with fail;refine(Nr g (q2+1) _ HR4.o aH).mono ?_;rintro e w5 ⟨s5,q5,rfl,hs5,hq5,hR5,hg5⟩;have HR5:=Aa hR5;have Hg5:=Aa (Ae Hg4.o hg5);have hl5:=hs5.1;have hgl5:=hR5.lt;clear hR5 hg5 hs5;go_wp2_with fail;refine aF (v:=.tuple #[s5,s2,s1,s2]) (by simp[results,results51,go_sem]) rfl ?_;exact⟨s5,s2,s1,s2,q5,rfl,by omega,by omega,by omega,by omega,by omega,HR5.o,Hg5.o⟩
  have tx:((x:Int) == 0)=false:=aM;clear hx0;go_wp2_with fail;go_loopw [41,10] (fun i o wr=>∃(m:Nat) (out:List UInt8) (q:Nat),i=.int .i64 m/\o=out/\m<=xs.length/\out.length<=8200*m/\q<=q2+1+300*m/\g<wr.heap.size/\Hid (Fg wr g q)/\Hid (w4.grownBy wr (some g))) (fun i _ _=>xs.length - (intOf i).toNat)
  case atStart=>exact⟨0,[],q2+1,rfl,rfl,ag _,by simp,by omega,hgl4,HR4.o,World.grownBy.refl _ _⟩
  case round=>
   obtain⟨m,out,q,rfl,rfl,hm,hol,hq,hgw,hR,hg⟩:=hrel;have m1:(0:Int)<=(m:Int):=aH;by_cases hlt:m<xs.length
   ·have m2:(m:Int)<(xs.length:Int):=aH;obtain⟨A',c',e',_,hrow,hfds⟩:=Hsc4.o.grown HR4.o hg.o;injection e' with eA _ ec;subst eA ec;have hxm:=ae hlt;have hfx:=hfds _ hxm;have hfx4:Dq w4 xs[m].2 xs[m].1.fields:=by obtain⟨_,_,_,_,_,hf⟩:=Hsc4.o;exact hf _ hxm
    have Hto:=Aa (Hok.o.1.1 xs[m].1 (by rw[<-Hxs.o];exact ap (f:=(·.1)) hxm));obtain⟨b1,o1,rfl,hb1l,x0,x1,x2⟩:=Gb.at_ hrow hlt;clear hrow hfds hxm;generalize xs[m]=tx at *;obtain⟨t,fv⟩:=tx;simp only at x0 x1 x2 Hto hfx hfx4;have hf8:t.fields.length<=8:=Hto.o.2.2.2.1;have hfx':=hfx;obtain⟨A4,c4,rfl,_,hrow4⟩:=hfx;have Hfx:=Aa hfx4;have X0:=Aa x0;have X1:=Aa x1;have X2:=Aa x2;clear hfx' hfx4 hrow4;have htl:=t.sort.toNat_lt;have hz12:∃B12,B12=wr.heap.size:=⟨_,rfl⟩
    obtain⟨B12,hB12⟩:=hz12;go_wp2_with fail;have HO0:Hid (Er g B12 (B12+1) (.int .u8 (t.sort.toNat:Int)) t.name (.slice A4 t.fields.length c4) w4 ((wr.alloc (.cells #[.int .u8 (t.sort.toNat:Int),t.name,.slice A4 t.fields.length c4] 143)).alloc (.cells #[.int .u8 (t.sort.toNat:Int),t.name,.slice none 0 0] 143)) [] (.slice none 0 0) q):=by
     have ha:Below wr wr (wr.alloc (.cells #[.int .u8 (t.sort.toNat:Int),t.name,.slice A4 t.fields.length c4] 143)):=(Ao _ _).alloc (An _) _;have hb:Below (wr.heap.size+1) (wr.alloc (.cells #[.int .u8 (t.sort.toNat:Int),t.name,.slice A4 t.fields.length c4] 143)) ((wr.alloc (.cells #[.int .u8 (t.sort.toNat:Int),t.name,.slice A4 t.fields.length c4] 143)).alloc (.cells #[.int .u8 (t.sort.toNat:Int),t.name,.slice none 0 0] 143)):=((Ao _ _).alloc aK _)
     have e1:=Bo (wr.alloc (.cells #[.int .u8 (t.sort.toNat:Int),t.name,.slice A4 t.fields.length c4] 143)) [.int .u8 (t.sort.toNat:Int),t.name,.slice none 0 0] 143;have e2:=Bz (wr.alloc (.cells #[.int .u8 (t.sort.toNat:Int),t.name,.slice A4 t.fields.length c4] 143)) [.int .u8 (t.sort.toNat:Int),t.name,.slice none 0 0] 143;rw[World.size_alloc]at e1 e2;rw[hB12];exact⟨(hR.o.below ha).below (hb.mono aK),Ae hg.o (Cc (ha.trans (hb.mono aH)) _),Ah (Bo wr [.int .u8 (t.sort.toNat:Int),t.name,.slice A4 t.fields.length c4] 143) aH hb,e1,e2,World.ownsRow_nil _ _ _ _,⟨hgw,by omega,by simp,by have:=hg.o.size;omega⟩⟩
    rw[<-hB12];generalize (wr.alloc (.cells #[.int .u8 (t.sort.toNat:Int),t.name,.slice A4 t.fields.length c4] 143)).alloc (.cells #[.int .u8 (t.sort.toNat:Int),t.name,.slice none 0 0] 143)=W5 at HO0 ⊢;have hg12:g<B12:=aH;obtain⟨wo,rfl⟩:∃wo:World,wo=wr:=⟨_,rfl⟩
    clear hB12 X0 X1 X2 x0 x1 x2;go_loopw [53,14] (fun i la wr=>∃(j last q':Nat) (fs:List Fd) (fv:Value),i=.int .i64 j/\la=.int .i64 last/\j<=t.fields.length/\last<=200/\fs.length<=2*j/\q'<=q+25*j/\Hid (∀f∈fs,Gu t.sort f)/\Hid (Er g B12 (B12+1) (.int .u8 (t.sort.toNat:Int)) t.name (.slice A4 t.fields.length c4) w4 wr fs fv q')) (fun i _ _=>t.fields.length - (intOf i).toNat)
    case atStart=>exact⟨0,0,q,[],_,rfl,rfl,ag _,by omega,by simp,by omega,(fun f hf=>by cases hf),HO0.o⟩
    case round=>
     obtain⟨j,last,q',fs,fv',rfl,rfl,hj,hla,hfl,hq',hsh,hO⟩:=hrel;have j1:(0:Int)<=(j:Int):=aH;have b12l:B12<wr.heap.size:=by have:=hO.o.lt;omega
     have b13l:B12+1<wr.heap.size:=hO.o.lt.2.2.1;have y0:wr.cell? ⟨B12,0,none⟩=some (.int .u8 (t.sort.toNat:Int)):=by simpa using Ab hO.o.old 0 rfl
     have y2:wr.cell? ⟨B12,2,none⟩=some (.slice A4 t.fields.length c4):=by simpa using Ab hO.o.old 2 rfl
     obtain⟨A3,n3,c3,e3⟩:=Ed hO.o.row;subst e3;by_cases hjl:j<t.fields.length
     ·have j2:(j:Int)<(t.fields.length:Int):=aH;obtain⟨A5,c5,e5,_,hrow5⟩:=Hfx.o.grown HR4.o hO.o.grown;injection e5 with eA5 _ ec5;subst eA5 ec5;obtain⟨bb,off2,rfl,hbb,g0,g1,g2,g3⟩:=Dq.at_ hrow5 hjl;have Hgm:=Aa (Qjg (Hto.o.2.2.1.1 _ (ae hjl)));have hft1:=(Hto.o.2.2.1.1 _ (ae hjl)).1;have hft2:=(Hto.o.2.2.1.1 _ (ae hjl)).2.1;clear hrow5;generalize t.fields[j]=f at *;have n12:¬(B12=wr.heap.size):=aH;obtain⟨B16,hB16⟩:∃B16,B16=wr.heap.size:=⟨_,rfl⟩
      have hba:Below wr wr (wr.alloc (.cells #[(f.tag:Int),.string ⟨f.name.toArray⟩,.string ⟨(Ax f.kind).toArray⟩,.string ⟨f.given.toArray⟩] 157)):=(Ao _ _).alloc (An _) _;have HO6:=Aa (hO.o.below hba)
      have HF6:=Aa (show Rs B16 f (B12+1) (.slice A3 n3 c3) (wr.alloc (.cells #[(f.tag:Int),.string ⟨f.name.toArray⟩,.string ⟨(Ax f.kind).toArray⟩,.string ⟨f.given.toArray⟩] 157))from by
       rw[hB16];exact⟨Bo wr (Ky f) 157,Bz wr (Ky f) 157,⟨b13l,by simp⟩,fun e=>by have:=hO.o.block _ e;omega⟩)
      have Hsh:=Aa hsh.o;go_upto_region 15 with fail
      rw[<-hB16];generalize (wr.alloc (.cells #[(f.tag:Int),.string ⟨f.name.toArray⟩,.string ⟨(Ax f.kind).toArray⟩,.string ⟨f.given.toArray⟩] 157))=W6 at HO6 HF6 ⊢;clear hba hB16 y0 y2 g0 g1 g2 g3;have y0:W6.cell? ⟨B12,0,none⟩=some (.int .u8 (t.sort.toNat:Int)):=by simpa using Ab HO6.o.old 0 rfl
      go_cut [53,65]from 53 to 114 (fun ix b wx=>∃(bq:Bool) (q3:Nat),ix=(j:Int)/\b=.bool bq/\q3<=q'+1/\Hid (Er g B12 (B12+1) (.int .u8 (t.sort.toNat:Int)) t.name (.slice (some ⟨bb,off2,none⟩) t.fields.length c4) w4 wx fs (.slice A3 n3 c3) q3)/\Hid (Rs B16 f (B12+1) (.slice A3 n3 c3) wx))
      case first=>
       by_cases h82:t.sort=82
       ·have t82:((t.sort.toNat:Int) == 82)=true:=gq;clear h82;go_wp2_with fail;refine(Bs g q' 4 _ HO6.o.rdr aH aH aH).mono ?_;rintro e w7 ⟨x,rfl,hx1,_,hR7,hg7⟩;have HO7:=Aa (HO6.o.pick hg7 hR7);have HF7:=Aa (HF6.o.grown hg7 aH);clear hR7 hg7 y0;go_wp2_with fail;go_meet
        exact⟨_,q'+1,rfl,rfl,by omega,HO7.o,HF7.o⟩
       ·have t82:((t.sort.toNat:Int) == 82)=false:=gp;clear h82;go_wp2_with fail;go_meet
        exact⟨false,q',rfl,rfl,by omega,HO6.o,HF6.o⟩
      case rest=>
       obtain⟨w7,rfl⟩:∃w7:World,w7=wc:=⟨_,rfl⟩
       obtain⟨bq,q3,rfl,rfl,hq3,HO7,HF7⟩:=hcut;clear y0 HO6 HF6;cases bq with
       |true=>
        go_wp2_with fail;go_roundw
        case rel=>exact⟨j+1,last,q3,fs,_,by go_num,rfl,by omega,hla,by omega,by omega,Hsh.o,HO7.o⟩
        case measure=>simp[intOf];omega
       |false=>
        have y0:w7.cell? ⟨B16,0,none⟩=(f.tag:Int):=by simpa using Ab HF7.o.cells 0 rfl
        go_upto_region 16 with fail
        go_cut [53,75]from 53 to 114 (fun ix b wx=>∃(bi:Bool) (q4:Nat),ix=(j:Int)/\b=.bool bi/\q4<=q3+1/\Hid (bi=true->last+1<f.tag)/\Hid (Er g B12 (B12+1) (.int .u8 (t.sort.toNat:Int)) t.name (.slice (some ⟨bb,off2,none⟩) t.fields.length c4) w4 wx fs (.slice A3 n3 c3) q4)/\Hid (Rs B16 f (B12+1) (.slice A3 n3 c3) wx))
        case first=>
         go_wp2_with fail;refine(Bs g q3 6 _ HO7.o.rdr aH aH aH).mono ?_;rintro e w8 ⟨x,rfl,hx1,_,hR8,hg8⟩;have HO8:=Aa (HO7.o.pick hg8 hR8);have HF8:=Aa (HF7.o.grown hg8 aH);clear hR8 hg8 y0 hx1;have y0:w8.cell? ⟨B16,0,none⟩=(f.tag:Int):=by simpa using Ab HF8.o.cells 0 rfl
         by_cases hx0:x=0
         ·subst hx0;go_wp2_with fail;go_meet
          exact⟨decide ((last:Int)+1<(f.tag:Int)),q3+1,rfl,rfl,by omega,fun h=>(by have:=of_decide_eq_true h;omega),HO8.o,HF8.o⟩
         ·have tx:((x:Int) == 0)=false:=aM;clear hx0;go_wp2_with fail;go_meet
          exact⟨false,q3+1,rfl,rfl,by omega,(fun h=>Bool.noConfusion h),HO8.o,HF8.o⟩
        case rest=>
         obtain⟨w8,rfl⟩:∃w8:World,w8=wc:=⟨_,rfl⟩
         obtain⟨bi,q4,rfl,rfl,hq4,Hbi,HO8,HF8⟩:=hcut;clear y0 HO7 HF7;go_upto_if 75 with fail
         go_cut [53]from 53 to 114 (fun ix wx=>∃(fs2:List Fd) (A:Option Addr) (n c' q5:Nat),ix=(j:Int)/\q5<=q4+1/\fs2.length<=fs.length+1/\Hid (∀f∈fs2,Gu t.sort f)/\Hid (Er g B12 (B12+1) (.int .u8 (t.sort.toNat:Int)) t.name (.slice (some ⟨bb,off2,none⟩) t.fields.length c4) w4 wx fs2 (.slice A n c') q5)/\Hid (Rs B16 f (B12+1) (.slice A n c') wx))
         case first=>
          cases bi with
          |false=>
           go_wp2_with fail;go_meet
           exact⟨fs,A3,n3,c3,q4,rfl,by omega,by omega,Hsh.o,HO8.o,HF8.o⟩
          |true=>
           have hlt2:=Hbi.o rfl;go_upto_region 17 with fail
           have HO:=HO8;have HF:=@Aa (Jo (some (B16,f)) (B12+1) (.slice A3 n3 c3) w8) (fun b f' e=>(by injection e with e;injection e with e1 e2;subst e1 e2;exact HF8.o));have hob:Hid (∃ob,ob=some (B16,f)):=⟨_,rfl⟩
           obtain⟨ob,hob⟩:=hob.o;rw[<-hob]at HF;have Hob:=Aa hob;obtain⟨qr,hqr⟩:∃qr,qr=q4:=⟨_,rfl⟩
           rw[<-hqr]at HO;have hcv:=fun W g0=>Kz W g0 1 (C5 (101+j));have hu8:IntKind.u8.wrap (101+(j:Int))=((101+j:Nat):Int):=gM;have Hne:=Aa hlt2;have w2i:IntKind.i64.wrap (101+(j:Int))=101+(j:Int):=IntWalk.i64_in _ aH;have w1i:IntKind.i64.wrap ((f.tag:Int) - 1)=(f.tag:Int) - 1:=IntWalk.i64_in _ aH;clear hlt2 Hbi hob HO8 HF8;refine Jd [76,77,78,79,80,81,82,83,84,85,86,87,88,89,90,91,92,93,999]
            (fun ix v W=>match ix with|0=>v=.pointer (some ⟨B12+1,2,none⟩)|1=>v=.slice A3 n3 c3|2=>v=.pointer (some ⟨B16,0,none⟩)|3=>v=(f.tag:Int)|4=>v=.int .i64 ((f.tag:Int) - 1)|5=>v=(j:Int)|6=>v=.int .i64 (101+(j:Int))|7=>v=.int .u8 ((101+j:Nat):Int)|8=>∃b,v=.slice (some ⟨b,0,none⟩) 1 1|9=>v=.string ⟨([C5 (101+j)]:List UInt8).toArray⟩|10=>v=.pointer (some ⟨B12,0,none⟩)|11=>v=.int .u8 (t.sort.toNat:Int)|12=>v=.bool (decide (t.sort=69))|13=>v=.string ⟨(if decide (t.sort=69)=true then[]else[110]:List UInt8).toArray⟩|14=>∃f2:Fd,v=.agg (Ky f2).toArray/\Gu t.sort f2|15=>∃b,v=.slice (some ⟨b,0,none⟩) 1 1|16=>∃A n c,v=.slice A n c|17=>v=.pointer (some ⟨B12+1,2,none⟩)|18=>v=undef|_=>True)
            (fun L U W=>((L 8=true->L 15=false->∃g8,U 8=.slice (some ⟨g8,0,none⟩) 1 1/\g8<W.heap.size/\W.cell? ⟨g8,0,none⟩=some (.int .u8 ((101+j:Nat):Int)))/\W.rangeAt B12 0 [.int .u8 (t.sort.toNat:Int),t.name,.slice (some ⟨bb,off2,none⟩) t.fields.length c4]/\(∀b f,ob=some (b,f)->W.rangeAt b 0 (Ky f))/\(L 18=false->W.rangeAt (B12+1) 0 [.int .u8 (t.sort.toNat:Int),t.name,(.slice A3 n3 c3)]))/\(L 15=false->∃q5,q5<=qr+1/\Er g B12 (B12+1) (.int .u8 (t.sort.toNat:Int)) t.name (.slice (some ⟨bb,off2,none⟩) t.fields.length c4) w4 W fs (.slice A3 n3 c3) q5/\Jo ob (B12+1) (.slice A3 n3 c3) W)/\(L 15=true->L 16=false->∃W7 f2 q5,q5<=qr+1/\W=W7.alloc (.cells (Ky f2).toArray 157)/\U 15=.slice (some ⟨W7.heap.size,0,none⟩) 1 1/\Er g B12 (B12+1) (.int .u8 (t.sort.toNat:Int)) t.name (.slice (some ⟨bb,off2,none⟩) t.fields.length c4) w4 W7 fs (.slice A3 n3 c3) q5/\Jo ob (B12+1) (.slice A3 n3 c3) W7/\Gu t.sort f2)/\(L 16=true->L 18=false->L 15=true/\∃f2 q5,q5<=qr+1/\Qac g B12 (B12+1) (.int .u8 (t.sort.toNat:Int)) t.name (.slice (some ⟨bb,off2,none⟩) t.fields.length c4) w4 W fs (.slice A3 n3 c3) q5 ob f2 (U 16)/\Gu t.sort f2)/\(L 18=true->∃f2 fv2 q5,q5<=qr+1/\Er g B12 (B12+1) (.int .u8 (t.sort.toNat:Int)) t.name (.slice (some ⟨bb,off2,none⟩) t.fields.length c4) w4 W (fs++[f2]) fv2 q5/\Jo ob (B12+1) fv2 W/\Gu t.sort f2)) (⟨⟨fun h=>Bool.noConfusion h,HO.o.old,fun b f e=>(HF.o b f e).cells,fun _=>HO.o.new⟩,fun _=>⟨qr,by omega,HO.o.below (Ao _ _).drew,HF.o.below (Ao _ _).drew⟩,fun h=>Bool.noConfusion h,fun h=>Bool.noConfusion h,fun h=>Bool.noConfusion h⟩) ?_ ?_
           ·repeat (first|exact Ak.nil|(refine Ak.cons ?_ ?_;rotate_left))
            all_goals
             rintro L U W hL hpre HR Hdep K hK;obtain⟨⟨Rx,Ra,Rb,Rc⟩,R1,R2,R3,R4⟩:=HR.o;have a12:W.cell? ⟨B12,0,none⟩=some (.int .u8 (t.sort.toNat:Int)):=by simpa using Ab Ra 0 rfl
             have a16:W.cell? ⟨B16,0,none⟩=(f.tag:Int):=by simpa using Ab (Rb B16 f Hob.o) 0 rfl
             first|(simp[Region.binds]at hpre;done)|simp[Region.binds]at hpre|clear hpre
            ·exact ir
            ·have h16:L 16=false:=Bb Hdep.o 16 1 rfl hL;have h18:L 18=false:=Bb Hdep.o 18 16 rfl h16;have a13:W.cell? ⟨B12+1,2,none⟩=some (.slice A3 n3 c3):=by simpa using Ab (Rc h18) 2 rfl
             exact kJ
            iterate 2
             ·exact ir
            ·go_simp;exact hK (.int .i64 ((f.tag:Int) - 1)) _ _ rfl Ac HR.o bE
            ·exact ir
            ·go_simp;exact hK (.int .i64 (101+(j:Int))) _ _ rfl Ac HR.o (by simp[Act.put,hpre,w2i])
            ·go_simp;exact hK (.int .u8 ((101+j:Nat):Int)) _ _ rfl Ac HR.o (by simp[Act.put,hpre,hu8])
            ·have h9:L 9=false:=Bb Hdep.o 9 8 rfl hL;have h14:L 14=false:=Bb Hdep.o 14 9 rfl h9;have h15:L 15=false:=Bb Hdep.o 15 14 rfl h14;have h16:L 16=false:=Bb Hdep.o 16 15 rfl h15;have h18:L 18=false:=Bb Hdep.o 18 16 rfl h16;obtain⟨q5,hq5,o5,b5⟩:=R1 h15;have hba:Below W W (W.alloc (.cells #[.int .u8 ((101+j:Nat):Int)] 5)):=(Ao _ _).alloc (An _) _;go_simp;exact hK _ _ _ ⟨W.heap.size,rfl⟩ Ac ⟨⟨fun _ _=>⟨W.heap.size,by simp,by simp,by simp⟩,Ah Ra cS hba,fun b f e=>Ah (Rb b f e) (b5 b f e).lt.2 hba,fun h=>Ah (Rc h18) o5.lt.2.2.1 hba⟩,fun _=>⟨q5,hq5,o5.below hba,b5.below hba⟩,fun h=>absurd (h15.symm.trans aR) aJ,fun h=>absurd (h16.symm.trans aR) aJ,fun h=>absurd (h18.symm.trans aR) aJ⟩ aI
            ·obtain⟨l8,_⟩:=hpre;have h14:L 14=false:=Bb Hdep.o 14 9 rfl hL;have h15:L 15=false:=Bb Hdep.o 15 14 rfl h14;obtain⟨g8,u8',hg8,hc8⟩:=Rx l8 h15;have hcv:=Kz W g8 1 (C5 (101+j)) (by rw[Df aH];exact hc8);go_simp;exact hK _ _ _ rfl Ac HR.o (by simp[Act.put,u8'])
            iterate 2
             ·exact ir
            ·exact iC
            ·have h14:L 14=false:=Bb Hdep.o 14 13 rfl hL;have h15:L 15=false:=Bb Hdep.o 15 14 rfl h14;have h16:L 16=false:=Bb Hdep.o 16 15 rfl h15;have h18:L 18=false:=Bb Hdep.o 18 16 rfl h16;obtain⟨q5,hq5,o5,b5⟩:=R1 h15;obtain⟨_,u12⟩:=hpre;go_simp;refine(Qc0 (decide (t.sort=69)) [] [110] W).mono ?_;rintro e w' ⟨rfl,hba⟩;exact hK _ _ _ rfl Ac ⟨⟨fun h8 h9=>by obtain⟨g8,q1,q2,q3⟩:=Rx (by simpa using h8) (by simpa using h9);exact⟨g8,by simpa using q1,ac q2 hba.size,(hba.cell (p:=⟨g8,0,none⟩) q2).trans q3⟩,Ah Ra cS hba,fun b f e=>Ah (Rb b f e) (b5 b f e).lt.2 hba,fun h=>Ah (Rc h18) o5.lt.2.2.1 hba⟩,fun _=>⟨q5,hq5,o5.below hba,b5.below hba⟩,fun h=>absurd (h15.symm.trans aR) aJ,fun h=>absurd (h16.symm.trans aR) aJ,fun h=>absurd (h18.symm.trans aR) aJ⟩ (by simp[Act.put,u12])
            ·obtain⟨⟨_,u4⟩,⟨_,u9⟩,_,u13⟩:=hpre;obtain⟨f2,ef2,hs2⟩:=Qjy (st:=t.sort) (n:=f.tag - 1) (nm:=[C5 (101+j)]) (kd:=if decide (t.sort=69)=true then[]else[110]) aH aK (by split<;>simp) (by split<;>decide);rw[show ((f.tag - 1:Nat):Int)=(f.tag:Int) - 1 by have:=Hne.o;omega]at ef2;go_simp;exact hK _ _ _ ⟨f2,ef2,hs2⟩ Ac HR.o (by simp[Act.put,u4,u9,u13])
            ·obtain⟨lb,f2,ub,hs2⟩:=hpre;obtain⟨q5,hq5,o5,b5⟩:=R1 hL;have h1:L 16=false:=Bb Hdep.o 16 15 rfl hL;have h2:L 18=false:=Bb Hdep.o 18 16 rfl h1;exact kN
            ·obtain⟨lv,uv⟩:L 1=true/\U 1=(.slice A3 n3 c3):=by
              exact kO
             obtain⟨ls,bs,us⟩:L 15=true/\∃b,U 15=.slice (some ⟨b,0,none⟩) 1 1:=by
              exact kP
             have h2:L 18=false:=Bb Hdep.o 18 16 rfl hL;obtain⟨W7,f2,q5,hq5,rfl,u7,o5,b5,hs2⟩:=R2 ls hL;rw[if_pos cr];refine Fp W7 (.tmp 77) (.tmp 91) 141 rfl (B12+1+1) 157 sf0 4 56 underlying141 Qb6 rfl aJ (Ky f2) rfl (fun y hy=>Yd [f2] y eh) (.slice A3 n3 c3) fs.length (fs.flatMap Ky) uv u7 o5.row aU aH cS ?_;exact kQ
            ·exact ir
            ·obtain⟨lp,la,A5',n5',c5',ua⟩:(∃h:True,True)/\L 16=true/\∃A n c,U 16=.slice A n c:=by
              exact kR
             obtain⟨ls,f2,q5,hq5,oa,hs2⟩:=R3 la hL;have up:U 17=.pointer (some ⟨B12+1,2,none⟩):=by
              first|exact hpre.1.2|exact hpre.2.1.2|exact hpre.2.2
             rw[ua]at oa;have hcell:(W.cell? ⟨B12+1,2,none⟩)=some (.slice A3 n3 c3):=by simpa using Ab oa.new 2 rfl
             have hfz:W.frozen? ⟨B12+1,2,none⟩=false:=by simpa using(oa.there 2 aJ).2
             exact kS
           rintro L U W hL hφ hR;clear hφ;have h18:=hL 18 aJ;obtain⟨_,_,_,_,R4⟩:=hR;obtain⟨f2,fv2,q5,hq5,os,bs,hs2⟩:=R4 h18;obtain⟨A9,n9,c9,rfl⟩:=Ed os.row;have Hob':=Hob.o;clear hL R4 HO HF;go_wp2_with fail;go_meet
           exact⟨fs++[f2],A9,n9,c9,q5,rfl,by omega,by simp,fun f' hf'=>by rcases af.1 hf' with h|h;exact Hsh.o f' h;simp at h;subst h;exact hs2,os,bs B16 f Hob'⟩
         case rest=>
          obtain⟨w9,rfl⟩:∃w9:World,w9=wc:=⟨_,rfl⟩
          obtain⟨fs2,A,n,c',q5,rfl,hq5,hfl2,Hsh2,HO9,HF9⟩:=hcut;clear HO8 HF8;go_upto_region 18 with fail
          go_cut [53,101]from 53 to 114 (fun ix b wx=>∃(bq:Bool) (q6:Nat),ix=(j:Int)/\b=.bool bq/\q6<=q5+1/\Hid (bq=true->t.sort≠69)/\Hid (Er g B12 (B12+1) (.int .u8 (t.sort.toNat:Int)) t.name (.slice (some ⟨bb,off2,none⟩) t.fields.length c4) w4 wx fs2 (.slice A n c') q6)/\Hid (Rs B16 f (B12+1) (.slice A n c') wx))
          case first=>
           go_wp2_with fail;refine(Bs g q5 12 _ HO9.o.rdr aH aH aH).mono ?_;rintro e w10 ⟨x,rfl,hx1,_,hR10,hg10⟩;have HO10:=Aa (HO9.o.pick hg10 hR10);have HF10:=Aa (HF9.o.grown hg10 aH);clear hR10 hg10 hx1;have y0:w10.cell? ⟨B12,0,none⟩=some (.int .u8 (t.sort.toNat:Int)):=by simpa using Ab HO10.o.old 0 rfl
           by_cases hx0:x=0
           ·subst hx0;by_cases h69:t.sort=69
            ·have t69:((t.sort.toNat:Int) != 69)=false:=cD;clear h69;go_wp2_with fail;go_meet
             exact kT
            have t69:((t.sort.toNat:Int) != 69)=true:=cC;have H69:=Aa h69;clear h69;go_wp2_with fail;go_meet
            exact⟨true,q5+1,rfl,rfl,by omega,(fun _=>H69.o),HO10.o,HF10.o⟩
           ·have tx:((x:Int) == 0)=false:=aM;clear hx0;go_wp2_with fail;go_meet
            exact kT
          case rest=>
           obtain⟨w10,rfl⟩:∃w10:World,w10=wc:=⟨_,rfl⟩
           obtain⟨bq,q6,rfl,rfl,hq6,Hbq,HO10,HF10⟩:=hcut;clear HO9 HF9;go_upto_if 101 with fail
           go_cut [53]from 53 to 114 (fun ix wx=>∃(f3:Fd) (q7:Nat),ix=(j:Int)/\q7<=q6+8/\Hid (Gu t.sort f3)/\Hid (Er g B12 (B12+1) (.int .u8 (t.sort.toNat:Int)) t.name (.slice (some ⟨bb,off2,none⟩) t.fields.length c4) w4 wx fs2 (.slice A n c') q7)/\Hid (Rs B16 f3 (B12+1) (.slice A n c') wx))
           case first=>
            cases bq with
            |false=>
             go_wp2_with fail;go_meet
             exact⟨f,q6,rfl,by omega,Hgm.o,HO10.o,HF10.o⟩
            |true=>
             have H69:=Aa (Hbq.o rfl);clear Hbq;go_wp2_with fail;refine(Ni g q6 _ HO10.o.rdr aH).mono ?_;rintro e w11 ⟨l,q7,rfl,hl,hq7,hR11,hg11⟩;have HO11:=Aa (HO10.o.pick hg11 hR11);have HF11:=Aa (HF10.o.grown hg11 aH);have Hl:=Aa hl;clear hR11 hg11 hl;have z2:w11.cell? ⟨B16,2,none⟩=some (.string ⟨(Ax f.kind).toArray⟩):=by simpa using Ab HF11.o.cells 2 rfl
             have z3:w11.cell? ⟨B16,3,none⟩=some (.string ⟨f.given.toArray⟩):=by simpa using Ab HF11.o.cells 3 rfl
             have zf2:w11.frozen? ⟨B16,2,none⟩=false:=by simpa using(HF11.o.there 2 aJ).2
             have zf3:w11.frozen? ⟨B16,3,none⟩=false:=by simpa using(HF11.o.there 3 aJ).2
             go_wp2_with fail;go_meet
             exact⟨{f with kind:=⟨[],l,[]⟩,given:=[]},q7,rfl,by omega,⟨Hgm.o.1,Hgm.o.2.1,by show (Ax ⟨[],l,[]⟩).length<=100;unfold Ax Bu;rw[if_neg Hl.o.ne];have:=Hl.o.len;show ([]++l).length<=100;simp;omega,by simp,fun h=>rfl⟩,(HO11.o.setBox HF11.o.lt.1 HF11.o.own 2 _).setBox HF11.o.lt.1 HF11.o.own 3 _,HF11.o.set l Hl.o.ne⟩
           case rest=>
            obtain⟨w12,rfl⟩:∃w12:World,w12=wc:=⟨_,rfl⟩
            obtain⟨f3,q7,rfl,hq7,Hsh3,HO12,HF12⟩:=hcut;clear HO10 HF10 Hbq;have m13:w12.cell? ⟨B12+1,2,none⟩=some (.slice A n c'):=by simpa using Ab HO12.o.new 2 rfl
            have z0:w12.cell? ⟨B16,0,none⟩=(f3.tag:Int):=by simpa using Ab HF12.o.cells 0 rfl
            have z1:w12.cell? ⟨B16,1,none⟩=f3.name:=by simpa using Ab HF12.o.cells 1 rfl
            have z2:w12.cell? ⟨B16,2,none⟩=some (.string ⟨(Ax f3.kind).toArray⟩):=by simpa using Ab HF12.o.cells 2 rfl
            have z3:w12.cell? ⟨B16,3,none⟩=f3.given:=by simpa using Ab HF12.o.cells 3 rfl
            have l13:B12+1<w12.heap.size:=HO12.o.lt.2.2.1;have l16:B16<w12.heap.size:=HF12.o.lt.2;have n16:¬(B16=B12+1):=by have:=HF12.o.lt.1;omega
            have n13:¬(B12+1=B16):=aH;have hft3:f3.tag<=200:=Hsh3.o.1;have HFO:=@Aa (Jo (some (B16,f3)) (B12+1) (.slice A n c') w12) (fun b f' e=>(by injection e with e;injection e with e1 e2;subst e1 e2;exact HF12.o));go_wp2_with (at_builtin;go_loud (refine Ph w12 rfl (.tmp 107) (.tmp 109) 141 rfl (B12+1+1) 157 sf0 4 56 underlying141 Qb6 rfl aJ [(f3.tag:Int),f3.name,.string ⟨(Ax f3.kind).toArray⟩,f3.given] rfl (by intro y hy;simp at hy;rcases hy with rfl|rfl|rfl|rfl<;>rfl) (.slice A n c') fs2.length (fs2.flatMap Ky) rfl rfl HO12.o.row aU aH aH ?_);intro v5 w5 hown5 hg5 hwh5;obtain⟨A5,n5,c5,e5⟩:=Ed hown5;subst e5;have HA:=Aa (Er.app (f2:=f3) HO12.o HFO.o hown5 hg5 hwh5);have f5:w5.frozen? ⟨B12+1,2,none⟩=false:=(by simpa using(HA.o.there 2 aJ).2);have p5:w5.cell? ⟨B12+1,2,none⟩=some (.slice A n c'):=(by simpa using Ab HA.o.new 2 rfl);have p6:w5.cell? ⟨B16,0,none⟩=(f3.tag:Int):=(by simpa using Ab (HA.o.box B16 f3 rfl).cells 0 rfl);clear hown5 hg5 hwh5)
            go_roundw
            case rel=>exact⟨j+1,f3.tag,q7,fs2++[f3],_,by go_num,rfl,by omega,hft3,by rw[ah];simp;omega,by omega,(fun f' hf'=>by rcases af.1 hf' with h|h;exact Hsh2.o f' h;simp at h;subst h;exact Hsh3.o),HA.o.store.1⟩
            case measure=>simp[intOf];omega
     ·obtain rfl:j=t.fields.length:=aH;clear y0 y2;have hf17:fs.length<=16:=aH;have Hsh:=Aa hsh.o;have HO6:=Aa hO.o;obtain⟨w6,hw6⟩:∃w6:World,w6=wr:=⟨_,rfl⟩
      rw[<-hw6]at HO6 ⊢;clear hw6 hO hsh b12l b13l;go_upto_region 24 with fail
      go_cut [41,121]from 41 to 141 (fun ix b wx=>∃(bq:Bool) (q8:Nat),ix=(m:Int)/\b=.bool bq/\q8<=q'+1/\Hid (bq=true->last<190)/\Hid (Er g B12 (B12+1) (.int .u8 (t.sort.toNat:Int)) t.name (.slice A4 t.fields.length c4) w4 wx fs (.slice A3 n3 c3) q8))
      case first=>
       go_wp2_with fail;refine(Bs g q' 3 _ HO6.o.rdr aH aH aH).mono ?_;rintro e w8 ⟨x,rfl,hx1,_,hR8,hg8⟩;have HO8:=Aa (HO6.o.pick hg8 hR8);clear hR8 hg8 hx1;by_cases hx0:x=0
       ·subst hx0;go_wp2_with fail;go_meet
        exact⟨decide ((last:Int)<190),q'+1,rfl,rfl,by omega,fun h=>(by have:=of_decide_eq_true h;omega),HO8.o⟩
       ·have tx:((x:Int) == 0)=false:=aM;clear hx0;go_wp2_with fail;go_meet
        exact⟨false,q'+1,rfl,rfl,by omega,(fun h=>Bool.noConfusion h),HO8.o⟩
      case rest=>
       obtain⟨w8,rfl⟩:∃w8:World,w8=wc:=⟨_,rfl⟩
       obtain⟨bq,q8,rfl,rfl,hq8,Hbq,HO8⟩:=hcut;clear HO6;go_upto_if 121 with fail
       go_cut [41]from 41 to 141 (fun ix wx=>∃(fs2:List Fd) (A:Option Addr) (n c' q9:Nat),ix=(m:Int)/\q9<=q8+1/\fs2.length<=fs.length+1/\Hid (∀f∈fs2,Gu t.sort f)/\Hid (Er g B12 (B12+1) (.int .u8 (t.sort.toNat:Int)) t.name (.slice A4 t.fields.length c4) w4 wx fs2 (.slice A n c') q9))
       case first=>
        cases bq with
        |false=>
         go_wp2_with fail;go_meet
         exact⟨fs,A3,n3,c3,q8,rfl,by omega,by omega,Hsh.o,HO8.o⟩
        |true=>
         have hlt2:=Hbq.o rfl;go_upto_region 25 with fail
         have HO:=HO8;obtain⟨ob,hob⟩:∃ob:Option (Nat × Fd),ob=none:=⟨_,rfl⟩
         have HF:=@Aa (Jo ob (B12+1) (.slice A3 n3 c3) w8) (fun b f' e=>by rw[hob]at e;cases e);obtain⟨qr,hqr⟩:∃qr,qr=q8:=⟨_,rfl⟩
         rw[<-hqr]at HO;have w1i:IntKind.i64.wrap ((last:Int)+1)=(last:Int)+1:=IntWalk.i64_in _ aH;clear Hbq hob HO8;refine Jd [122,123,124,125,126,127,128,129,130,131,132,133,134,135,136,999]
          (fun ix v W=>match ix with|0=>v=.pointer (some ⟨B12+1,2,none⟩)|1=>v=.slice A3 n3 c3|2=>v=(last:Int)|3=>v=.int .i64 ((last:Int)+1)|4=>v=g|5=>∃x:Nat,v=(x:Int)/\x<3|6=>∃x:Nat,v=.int .i64 ((last:Int)+1+(x:Int))/\x<3|7=>v=.pointer (some ⟨B12,0,none⟩)|8=>v=.int .u8 (t.sort.toNat:Int)|9=>v=.bool (decide (t.sort=69))|10=>v=.string ⟨(if decide (t.sort=69)=true then[]else[116]:List UInt8).toArray⟩|11=>∃f2:Fd,v=.agg (Ky f2).toArray/\Gu t.sort f2|12=>∃b,v=.slice (some ⟨b,0,none⟩) 1 1|13=>∃A n c,v=.slice A n c|14=>v=.pointer (some ⟨B12+1,2,none⟩)|15=>v=undef|_=>True)
          (fun L U W=>((L 5=false->L 12=false->∃q5,q5<=qr/\Er g B12 (B12+1) (.int .u8 (t.sort.toNat:Int)) t.name (.slice A4 t.fields.length c4) w4 W fs (.slice A3 n3 c3) q5/\Jo ob (B12+1) (.slice A3 n3 c3) W)/\W.rangeAt B12 0 [.int .u8 (t.sort.toNat:Int),t.name,.slice A4 t.fields.length c4]/\(∀b f,ob=some (b,f)->W.rangeAt b 0 (Ky f))/\(L 15=false->W.rangeAt (B12+1) 0 [.int .u8 (t.sort.toNat:Int),t.name,(.slice A3 n3 c3)]))/\(L 12=false->∃q5,q5<=qr+1/\Er g B12 (B12+1) (.int .u8 (t.sort.toNat:Int)) t.name (.slice A4 t.fields.length c4) w4 W fs (.slice A3 n3 c3) q5/\Jo ob (B12+1) (.slice A3 n3 c3) W)/\(L 12=true->L 13=false->∃W7 f2 q5,q5<=qr+1/\W=W7.alloc (.cells (Ky f2).toArray 157)/\U 12=.slice (some ⟨W7.heap.size,0,none⟩) 1 1/\Er g B12 (B12+1) (.int .u8 (t.sort.toNat:Int)) t.name (.slice A4 t.fields.length c4) w4 W7 fs (.slice A3 n3 c3) q5/\Jo ob (B12+1) (.slice A3 n3 c3) W7/\Gu t.sort f2)/\(L 13=true->L 15=false->L 12=true/\∃f2 q5,q5<=qr+1/\Qac g B12 (B12+1) (.int .u8 (t.sort.toNat:Int)) t.name (.slice A4 t.fields.length c4) w4 W fs (.slice A3 n3 c3) q5 ob f2 (U 13)/\Gu t.sort f2)/\(L 15=true->∃f2 fv2 q5,q5<=qr+1/\Er g B12 (B12+1) (.int .u8 (t.sort.toNat:Int)) t.name (.slice A4 t.fields.length c4) w4 W (fs++[f2]) fv2 q5/\Jo ob (B12+1) fv2 W/\Gu t.sort f2)) (⟨⟨fun _ _=>⟨qr,An _,HO.o.below (Ao _ _).drew,HF.o.below (Ao _ _).drew⟩,HO.o.old,fun b f e=>(HF.o b f e).cells,fun _=>HO.o.new⟩,fun _=>⟨qr,by omega,HO.o.below (Ao _ _).drew,HF.o.below (Ao _ _).drew⟩,fun h=>Bool.noConfusion h,fun h=>Bool.noConfusion h,fun h=>Bool.noConfusion h⟩) ?_ ?_
         ·repeat (first|exact Ak.nil|(refine Ak.cons ?_ ?_;rotate_left))
          all_goals
           rintro L U W hL hpre HR Hdep K hK;obtain⟨⟨Rx,Ra,Rb,Rc⟩,R1,R2,R3,R4⟩:=HR.o;have a12:W.cell? ⟨B12,0,none⟩=some (.int .u8 (t.sort.toNat:Int)):=by simpa using Ab Ra 0 rfl
           first|(simp[Region.binds]at hpre;done)|simp[Region.binds]at hpre|clear hpre
          ·exact iq
          ·have h16:L 13=false:=Bb Hdep.o 13 1 rfl hL;have h18:L 15=false:=Bb Hdep.o 15 13 rfl h16;have a13:W.cell? ⟨B12+1,2,none⟩=some (.slice A3 n3 c3):=by simpa using Ab (Rc h18) 2 rfl
           exact kJ
          ·exact iq
          ·go_simp;exact hK (.int .i64 ((last:Int)+1)) _ _ rfl Ac HR.o bE
          ·exact iq
          ·have h6:L 6=false:=Bb Hdep.o 6 5 rfl hL;have h11:L 11=false:=Bb Hdep.o 11 6 rfl h6;have h12:L 12=false:=Bb Hdep.o 12 11 rfl h11;have h13:L 13=false:=Bb Hdep.o 13 12 rfl h12;have h15:L 15=false:=Bb Hdep.o 15 13 rfl h13;obtain⟨⟨q5,hq5,o5,b5⟩,h5⟩:(∃q5,q5<=qr/\Er g B12 (B12+1) (.int .u8 (t.sort.toNat:Int)) t.name (.slice A4 t.fields.length c4) w4 W fs (.slice A3 n3 c3) q5/\Jo ob (B12+1) (.slice A3 n3 c3) W)/\True:=⟨Rx hL h12,Ac⟩
           go_simp;refine(Bs g q5 3 W o5.rdr aH aH aH).mono ?_;rintro e w' ⟨x,rfl,hx1,_,hRx,hgx⟩;have o6:=o5.pick hgx hRx;have b6:=b5.grown hgx cS;exact hK _ _ _ ⟨x,rfl,by omega⟩ Ac ⟨⟨fun h=>by simp at h,o6.old,fun b f e=>(b6 b f e).cells,fun _=>o6.new⟩,fun _=>⟨q5+1,by omega,o6,b6⟩,fun h=>absurd (h12.symm.trans aR) aJ,fun h=>absurd (h13.symm.trans aR) aJ,fun h=>absurd (h15.symm.trans aR) aJ⟩ aI
          ·obtain⟨⟨_,u3⟩,_,x,u5,hx⟩:=hpre;have w2i:IntKind.i64.wrap ((last:Int)+1+(x:Int))=(last:Int)+1+(x:Int):=IntWalk.i64_in _ aH;go_simp;exact hK (.int .i64 ((last:Int)+1+(x:Int))) _ _ ⟨x,rfl,hx⟩ Ac HR.o (by simp[Act.put,u3,u5,w2i])
          iterate 2
           ·exact iq
          ·exact iC
          ·have h11:L 11=false:=Bb Hdep.o 11 10 rfl hL;have h12:L 12=false:=Bb Hdep.o 12 11 rfl h11;have h13:L 13=false:=Bb Hdep.o 13 12 rfl h12;have h15:L 15=false:=Bb Hdep.o 15 13 rfl h13;have u9:U 9=.bool (decide (t.sort=69)):=by
            first|exact hpre.2|exact hpre.1.2|exact hpre.2.2|exact hpre.2.1.2
           go_simp;refine(Qc0 (decide (t.sort=69)) [] [116] W).mono ?_;rintro e w' ⟨rfl,hba⟩;obtain⟨q5,hq5,o5,b5⟩:=R1 h12;exact hK _ _ _ rfl Ac ⟨⟨fun h5 h12'=>by obtain⟨q6,e6,o6,b6⟩:=Rx (by simpa using h5) (by simpa using h12');exact⟨q6,e6,o6.below hba,b6.below hba⟩,Ah Ra cS hba,fun b f e=>Ah (Rb b f e) (b5 b f e).lt.2 hba,fun h=>Ah (Rc h15) o5.lt.2.2.1 hba⟩,fun _=>⟨q5,hq5,o5.below hba,b5.below hba⟩,fun h=>absurd (h12.symm.trans aR) aJ,fun h=>absurd (h13.symm.trans aR) aJ,fun h=>absurd (h15.symm.trans aR) aJ⟩ (by simp[Act.put,hpre,u9])
          ·obtain⟨⟨_,x,u6,hx⟩,_,u10⟩:=hpre;obtain⟨f2,ef2,hs2⟩:=Qjy (st:=t.sort) (n:=last+1+x) (nm:=[122,122]) (kd:=if decide (t.sort=69)=true then[]else[116]) aH aK (by split<;>simp) (by split<;>decide);rw[show ((last+1+x:Nat):Int)=(last:Int)+1+(x:Int)by omega]at ef2;go_simp;exact hK _ _ _ ⟨f2,ef2,hs2⟩ Ac HR.o (by simp[Act.put,u6,u10])
          ·obtain⟨lb,f2,ub,hs2⟩:=hpre;obtain⟨q5,hq5,o5,b5⟩:=R1 hL;have h1:L 13=false:=Bb Hdep.o 13 12 rfl hL;have h2:L 15=false:=Bb Hdep.o 15 13 rfl h1;exact kN
          ·obtain⟨lv,uv⟩:L 1=true/\U 1=(.slice A3 n3 c3):=by
            exact kO
           obtain⟨ls,bs,us⟩:L 12=true/\∃b,U 12=.slice (some ⟨b,0,none⟩) 1 1:=by
            exact kP
           have h2:L 15=false:=Bb Hdep.o 15 13 rfl hL;obtain⟨W7,f2,q5,hq5,rfl,u7,o5,b5,hs2⟩:=R2 ls hL;rw[if_pos cr];refine Fp W7 (.tmp 123) (.tmp 134) 141 rfl (B12+1+1) 157 sf0 4 56 underlying141 Qb6 rfl aJ (Ky f2) rfl (fun y hy=>Yd [f2] y eh) (.slice A3 n3 c3) fs.length (fs.flatMap Ky) uv u7 o5.row aU aH cS ?_;exact kQ
          ·exact iq
          ·obtain⟨lp,la,A5',n5',c5',ua⟩:(∃h:True,True)/\L 13=true/\∃A n c,U 13=.slice A n c:=by
            exact kR
           obtain⟨ls,f2,q5,hq5,oa,hs2⟩:=R3 la hL;have up:U 14=.pointer (some ⟨B12+1,2,none⟩):=by
            first|exact hpre.1.2|exact hpre.2.1.2|exact hpre.2.2
           rw[ua]at oa;have hcell:(W.cell? ⟨B12+1,2,none⟩)=some (.slice A3 n3 c3):=by simpa using Ab oa.new 2 rfl
           have hfz:W.frozen? ⟨B12+1,2,none⟩=false:=by simpa using(oa.there 2 aJ).2
           exact kS
         rintro L U W hL hφ hR;clear hφ;have h15:=hL 15 aJ;obtain⟨_,_,_,_,R4⟩:=hR;obtain⟨f2,fv2,q5,hq5,os,bs,hs2⟩:=R4 h15;obtain⟨A9,n9,c9,rfl⟩:=Ed os.row;clear hL R4 HO HF;go_wp2_with fail;go_meet
         exact⟨fs++[f2],A9,n9,c9,q5,rfl,by omega,by simp,fun f' hf'=>by rcases af.1 hf' with h|h;exact Hsh.o f' h;simp at h;subst h;exact hs2,os⟩
       case rest=>
        obtain⟨w9,rfl⟩:∃w9:World,w9=wc:=⟨_,rfl⟩
        obtain⟨fs2,A,n,c',q9,rfl,hq9,hfl2,Hsh2,HO9⟩:=hcut;clear HO8 Hbq;have p0:w9.cell? ⟨B12+1,0,none⟩=some (.int .u8 (t.sort.toNat:Int)):=by simpa using Ab HO9.o.new 0 rfl
        have p1:w9.cell? ⟨B12+1,1,none⟩=t.name:=by simpa using Ab HO9.o.new 1 rfl
        have p2:w9.cell? ⟨B12+1,2,none⟩=some (.slice A n c'):=by simpa using Ab HO9.o.new 2 rfl
        have Hsf:=@Aa (Dq w9 (.slice A n c') fs2) (Qmd HO9.o.row aH);have hnm:=(Ds.1 Hto.o.2.1).2.1;have Hout:=Aa (fun W (hs:Dq W (.slice A n c') fs2)=>Qft ⟨t.sort,t.name,fs2⟩ (.slice A n c') W hs (show fs2.length<=20 by omega) (show t.name.length<=100 by omega) Hsh2.o);have htb:=Qii (t:=⟨t.sort,t.name,fs2⟩) (show fs2.length<=20 by omega) (show t.name.length<=100 by omega) Hsh2.o;simp only[Kx]at Hout;generalize V8 ⟨t.sort,t.name,fs2⟩++[10]=tb at Hout htb;go_wp2_with fail;refine(Hout.o _ Hsf.o).mono ?_;rintro e w10 ⟨rfl,hb10⟩;have HO10:=Aa (HO9.o.below hb10);have hgl10:=HO10.o.rdr.lt;clear hb10 p0 p1 p2;go_wp2_with fail;go_roundw
        case rel=>exact⟨m+1,out++tb,q9,by go_num,rfl,by omega,by rw[ah];omega,by omega,hgl10,HO10.o.rdr,HO10.o.grown⟩
        case measure=>simp[intOf];omega
   ·obtain rfl:m=xs.length:=aH;have HRf:=Aa hR.o;have Hgf:=Aa (Ae Hg4.o hg.o);go_wp2_with fail;refine aF (v:=.tuple #[out,s2,s1,s2]) (by simp[results,results51,go_sem]) rfl ?_;exact⟨out,s2,s1,s2,q,rfl,by omega,by omega,by omega,by omega,by omega,HRf.o,Hgf.o⟩
inductive Vl where
 |mk (what:UInt8) (text:List UInt8) (tag:Nat) (kids:List Vl)
def Vl.what:Vl->UInt8|.mk w _ _ _=>w
def Vl.text:Vl->List UInt8|.mk _ t _ _=>t
def Vl.tag:Vl->Nat|.mk _ _ g _=>g
def Vl.kids:Vl->List Vl|.mk _ _ _ k=>k
def H4(w:UInt8)(tx:List UInt8)(tg:Nat)(ps:List (List UInt8)):List UInt8:=
 if w=116 then 39::(tx++[39])
 else if w=91 then 91::(Aw 44 ps++[93])
 else if w=63 then(match ps with|[]=>[45]|_=>43::Aw 44 ps)
 else if w=61 then Ba tg++61::Aw 44 ps
 else if w=82 then 123::(Aw 44 ps++[125])
 else if w=85 then 60::(Ba tg++61::(Aw 44 ps++[62]))
 else if w=69 then 35::Ba tg
 else tx
mutual
def Az:Vl->List UInt8
 |.mk w tx tg ks=>H4 w tx tg (D3 ks)
def D3:List Vl->List (List UInt8)
 |[]=>[]
 |x::xs=>Az x::D3 xs
end
theorem Tf:∀ks:List Vl,D3 ks=ks.map Az
 |[]=>rfl
 |x::xs=>by rw[D3,Tf xs];rfl
mutual
def M9:Vl->Nat
 |.mk w _ _ ks=>if w=61 then Jr ks else Jr ks+1
def Jr:List Vl->Nat
 |[]=>0
 |x::xs=>max (M9 x) (Jr xs)
end
theorem Yh:∀(ks:List Vl) (d:Nat),Jr ks<=d↔∀x∈ks,M9 x<=d
 |[],d=>by simp[Jr]
 |x::xs,d=>by rw[Jr,Nat.max_le,Yh xs d];simp
def Ev:List UInt8:=[121,101,115]
def M5:List UInt8:=[110,111]
def Dk(p:Fd × Vl):Vl:=.mk 61 [] p.1.tag [p.2]
inductive Ha(S:List Ty):Nat->Kd->Vl->Prop
 |n {d:Nat} {k:Kd} {m:Nat} (hs:k.signs=[]) (hb:k.base=[110]) (h:m<=999999):Ha S (d+1) k (.mk 110 (Ba m) 0 [])
 |t {d:Nat} {k:Kd} {s:List UInt8} (hs:k.signs=[]) (hb:k.base=[116]) (h:Dt s=true):Ha S (d+1) k (.mk 116 s 0 [])
 |f {d:Nat} {k:Kd} {b:Bool} (hs:k.signs=[]) (hb:k.base=[102]):Ha S (d+1) k (.mk 102 (if b then Ev else M5) 0 [])
 |lst {d:Nat} {k:Kd} {r:List UInt8} {ks:List Vl} (hs:k.signs=91::r) (hl:ks.length<=20) (h:∀x∈ks,Ha S d k.part x):Ha S (d+1) k (.mk 91 [] 0 ks)
 |non {d:Nat} {k:Kd} {r:List UInt8} (hs:k.signs=63::r):Ha S (d+1) k (.mk 63 [] 0 [])
 |som {d:Nat} {k:Kd} {r:List UInt8} {x:Vl} (hs:k.signs=63::r) (h:Ha S d k.part x):Ha S (d+1) k (.mk 63 [] 0 [x])
 |enm {d:Nat} {k:Kd} {t:Ty} {f:Fd} (hs:k.signs=[]) (hb:k.base=[64]) (ht:Bk S k.name=some t) (h9:t.sort=69) (hf:Au t.fields f.tag=some f):Ha S (d+1) k (.mk 69 [] f.tag [])
 |uni {d:Nat} {k:Kd} {t:Ty} {f:Fd} {x:Vl} (hs:k.signs=[]) (hb:k.base=[64]) (ht:Bk S k.name=some t) (h5:t.sort=85) (hf:Au t.fields f.tag=some f) (h:Ha S d f.kind x):Ha S (d+1) k (.mk 85 [] f.tag [x])
 |rcd {d:Nat} {k:Kd} {t:Ty} {fs:List (Fd × Vl)} (hs:k.signs=[]) (hb:k.base=[64]) (ht:Bk S k.name=some t) (h2:t.sort=82) (hf:∀p∈fs,Au t.fields p.1.tag=some p.1) (h:∀p∈fs,Ha S d p.1.kind p.2)
   (hn:∀p∈fs,Az p.2≠G9 S p.1) (hp:fs.Pairwise fun p q=>p.1.tag<q.1.tag):Ha S (d+1) k (.mk 82 [] 0 (fs.map Dk))
theorem Qjs(p:Fd × Vl):M9 (Dk p)=M9 p.2:=by simp[Dk,M9,Jr]
theorem Gz(S:List Ty):∀(n:Nat) (k:Kd) (v:Vl),Ha S n k v->∀d,Ha S d k v↔M9 v<=d:=by
 intro n;induction n with
 |zero=>intro k v h;cases h
 |succ n ih=>
  intro k v h d;cases d with
  |zero=>
   constructor
   ·intro h;cases h
   intro hd;cases h<;>simp[M9]at hd
  |succ d=>
   cases h with
   |n hs hb h=>exact⟨fun _=>by simp[M9,Jr],fun _=>.n hs hb h⟩
   |t hs hb h=>exact⟨fun _=>by simp[M9,Jr],fun _=>.t hs hb h⟩
   |f hs hb=>exact⟨fun _=>by simp[M9,Jr],fun _=>.f hs hb⟩
   |non hs=>exact⟨fun _=>by simp[M9,Jr],fun _=>.non hs⟩
   |enm hs hb ht h9 hf=>exact⟨fun _=>by simp[M9,Jr],fun _=>.enm hs hb ht h9 hf⟩
   |@lst _ _ r ks hs hl h=>
    have e:M9 (.mk 91 [] 0 ks)<=d+1↔∀x∈ks,M9 x<=d:=by rw[<-Yh];simp[M9]
    rw[e];constructor
    ·intro hv x hx;cases hv with
     |lst _ _ h2=>exact(ih _ _ (h x hx) d).1 (h2 x hx)
    intro hv;exact .lst hs hl fun x hx=>(ih _ _ (h x hx) d).2 (hv x hx)
   |@som _ _ r x hs h=>
    have e:M9 (.mk 63 [] 0 [x])<=d+1↔M9 x<=d:=by simp[M9,Jr]
    rw[e];constructor
    ·intro hv;cases hv with
     |som _ h2=>exact(ih _ _ h d).1 h2
    intro hv;exact .som hs ((ih _ _ h d).2 hv)
   |@uni _ _ t f x hs hb ht h5 hf h=>
    have e:M9 (.mk 85 [] f.tag [x])<=d+1↔M9 x<=d:=by simp[M9,Jr]
    rw[e];constructor
    ·intro hv;generalize hg:f.tag=g at hv;cases hv with
     |uni hs2 hb2 ht2 h52 hf2 h2=>
      rw[ht]at ht2;injection ht2 with ht2;subst ht2;rw[<-hg,hf]at hf2;injection hf2 with hf2;subst hf2;exact(ih _ _ h d).1 h2
    intro hv;exact .uni hs hb ht h5 hf ((ih _ _ h d).2 hv)
   |@rcd _ _ t fs hs hb ht h2 hf h hn hp=>
    have e:M9 (.mk 82 [] 0 (fs.map Dk))<=d+1↔∀p∈fs,M9 p.2<=d:=by
     have:M9 (.mk 82 [] 0 (fs.map Dk))=Jr (fs.map Dk)+1:=by simp[M9]
     rw[this,Nat.succ_le_succ_iff,Yh];constructor
     ·intro h p hp;have:=h _ (ap hp);rwa [Qjs]at this
     intro h x hx;obtain⟨p,hp,rfl⟩:=ax.1 hx;rw[Qjs];exact h p hp
    rw[e];constructor
    ·intro hv p hp;generalize hg:fs.map Dk=ks at hv;cases hv with
     |@rcd _ _ t2 fs2 hs2 hb2 ht2 h22 hf2 h2 hn2 hp2=>
      rw[ht]at ht2;injection ht2 with ht2;subst ht2;have hm:Dk p∈fs2.map Dk:=hg ▸ ap hp;obtain⟨q,hq,eq⟩:=ax.1 hm;have e1:q.1.tag=p.1.tag:=by injection eq
      have e2:q.2=p.2:=by injection eq with _ _ _ e4;injection e4
      have e3:q.1=p.1:=by have:=hf2 q hq;rw[e1,hf p hp]at this;injection this with this;exact this.symm
      have:=h2 q hq;rw[e2,e3]at this;exact(ih _ _ (h p hp) d).1 this
    intro hv;exact .rcd hs hb ht h2 hf (fun p hp=>(ih _ _ (h p hp) d).2 (hv p hp)) hn hp
def Sm(s:List UInt8):Option (Nat × List UInt8):=match Cx (s.takeWhile Bl)with
 |some n=>some (n,s.dropWhile Bl)
 |none=>none
def G0(fs:List Fd)(s:List UInt8):Option (Fd × List UInt8):=match Sm s with
 |some (n,r)=>if n<=200 then(match Au fs n with|some f=>some (f,r)|none=>none)else none
 |none=>none
def Av(c:UInt8):List UInt8->Option (List UInt8)
 |x::r=>if x=c then some r else none
 |[]=>none
def Pd(s:List UInt8):Option (List UInt8 × List UInt8):=match Av 39 s with
 |none=>none
 |some r=>match Av 39 (r.dropWhile Co)with
  |none=>none
  |some q=>if (r.takeWhile Co).length<=12 then some (r.takeWhile Co,q)else none
def Gq:List UInt8->List UInt8->Option (List UInt8)
 |[],s=>some s
 |c::p,s=>match Av c s with|none=>none|some r=>Gq p r
def Qx(s:List UInt8):Option (Bool × List UInt8):=match Gq Ev s with
 |some r=>some (true,r)
 |none=>match Gq M5 s with|some r=>some (false,r)|none=>none
def Db(K:List UInt8->Option (Vl × List UInt8)):Nat->List UInt8->Option (List Vl × List UInt8)
 |0,_=>none
 |m+1,s=>match K s with
  |none=>none
  |some (v,r)=>match Av 44 r with
   |some q=>(match Db K m q with|some (vs,z)=>some (v::vs,z)|none=>none)
   |none=>match Av 93 r with|some q=>some ([v],q)|none=>none
def Xx(K:List UInt8->Option (Vl × List UInt8))(m:Nat)(s:List UInt8):Option (Vl × List UInt8):=match Av 91 s with
 |none=>none
 |some r=>match Av 93 r with
  |some q=>some (.mk 91 [] 0 [],q)
  |none=>match Db K m r with|some (vs,q)=>if vs.length<=20 then some (.mk 91 [] 0 vs,q)else none|none=>none
def Qd4(K:List UInt8->Option (Vl × List UInt8))(s:List UInt8):Option (Vl × List UInt8):=match Av 45 s with
 |some q=>some (.mk 63 [] 0 [],q)
 |none=>match Av 43 s with
  |none=>none
  |some r=>match K r with|some (v,q)=>some (.mk 63 [] 0 [v],q)|none=>none
def Dj(K:Kd->List UInt8->Option (Vl × List UInt8))(fs:List Fd)(s:List UInt8):Option ((Fd × Vl) × List UInt8):=match G0 fs s with
 |none=>none
 |some (f,r)=>match Av 61 r with
  |none=>none
  |some q=>match K f.kind q with|some (v,z)=>some ((f,v),z)|none=>none
def El(S:List Ty)(K:Kd->List UInt8->Option (Vl × List UInt8))(fs:List Fd):Nat->Nat->List UInt8->Option (List (Fd × Vl) × List UInt8)
 |0,_,_=>none
 |m+1,last,s=>match Dj K fs s with
  |none=>none
  |some (p,r)=>if p.1.tag<=last\/Az p.2=G9 S p.1 then none else match Av 44 r with
   |some q=>(match El S K fs m p.1.tag q with|some (ps,z)=>some (p::ps,z)|none=>none)
   |none=>match Av 125 r with|some q=>some ([p],q)|none=>none
def Kv(S:List Ty)(K:Kd->List UInt8->Option (Vl × List UInt8))(t:Ty)(s:List UInt8):Option (Vl × List UInt8):=
 if t.sort=69 then(match Av 35 s with
  |none=>none
  |some r=>match G0 t.fields r with|some (f,q)=>some (.mk 69 [] f.tag [],q)|none=>none)
 else if t.sort=85 then(match Av 60 s with
  |none=>none
  |some r=>match Dj K t.fields r with
   |none=>none
   |some (p,q)=>match Av 62 q with|some z=>some (.mk 85 [] p.1.tag [p.2],z)|none=>none)
 else match Av 123 s with
  |none=>none
  |some r=>match Av 125 r with
   |some q=>some (.mk 82 [] 0 [],q)
   |none=>match El S K t.fields 201 0 r with|some (ps,q)=>some (.mk 82 [] 0 (ps.map Dk),q)|none=>none
def Ar(S:List Ty)(m:Nat):Nat->Kd->List UInt8->Option (Vl × List UInt8)
 |0,_,_=>none
 |d+1,k,s=>match k.signs with
  |c::_=>if c=91 then Xx (Ar S m d k.part) m s else Qd4 (Ar S m d k.part) s
  |[]=>
   if k.base=[110]then(match Sm s with|some (n,r)=>some (.mk 110 (Ba n) 0 [],r)|none=>none)
   else if k.base=[116]then(match Pd s with|some (x,r)=>some (.mk 116 x 0 [],r)|none=>none)
   else if k.base=[102]then(match Qx s with|some (b,r)=>some (.mk 102 (if b then Ev else M5) 0 [],r)|none=>none)
   else match Bk S k.name with
    |none=>none
    |some t=>Kv S (Ar S m d) t s
theorem Cu{c:UInt8}{s r:List UInt8}:Av c s=some r↔s=c::r:=by
 cases s with
 |nil=>simp[Av]
 |cons x t=>
  by_cases h:x=c
  ·subst h;simp[Av]
  simp[Av,h]
theorem Bv(c:UInt8)(r:List UInt8):Av c (c::r)=some r:=if_pos rfl
theorem Dm{c x:UInt8}(h:x≠c)(r:List UInt8):Av c (x::r)=none:=if_neg h
theorem Gw{p s r:List UInt8}:Gq p s=some r↔s=p++r:=by
 induction p generalizing s with
 |nil=>simp[Gq]
 |cons c p ih=>
  unfold Gq;cases h:Av c s with
  |none=>
   simp only[false_iff,reduceCtorEq];intro e;subst e;rw[av,Bv]at h;cases h
  |some q=>rw[Cu]at h;subst h;simp[ih]
def Sg(r:List UInt8):Prop:=∀c t,r=c::t->Bl c=false
theorem Pc:Sg []:=by intro c t h;cases h
theorem Kg{c:UInt8}(r:List UInt8)(h:Bl c=false):Sg (c::r):=by intro x t e;injection e with e;subst e;exact h
theorem Qh8{a r:List UInt8}(ha:a.all Bl=true)(hr:Sg r):(a++r).takeWhile Bl=a/\(a++r).dropWhile Bl=r:=by
 cases r with
 |nil=>
  rw[List.append_nil];induction a with
  |nil=>exact⟨rfl,rfl⟩
  |cons c a ih=>
   rw[List.all_cons,aw]at ha;obtain⟨i1,i2⟩:=ih ha.2;rw[List.takeWhile_cons_of_pos ha.1,List.dropWhile_cons_of_pos ha.1,i1,i2];exact jM
 |cons c t=>exact Gh ha ⟨c,t,rfl,hr c t rfl⟩
theorem Qaz{s r:List UInt8}{n:Nat}(h:Sm s=some (n,r)):n<=999999/\s=Ba n++r/\Sg r:=by
 unfold Sm at h;cases hd:Cx (s.takeWhile Bl)with
 |none=>rw[hd]at h;cases h
 |some m=>
  rw[hd]at h;simp only[aj,aE]at h;obtain⟨rfl,rfl⟩:=h;obtain⟨h1,h2⟩:=Cl.1 hd;refine⟨h1,by rw[<-h2,List.takeWhile_append_dropWhile],fun c t e=>?_⟩;have:=List.head?_dropWhile_not Bl s;rw[e]at this;simpa using this
theorem Qc8{n:Nat}{r:List UInt8}(h:n<=999999)(hr:Sg r):Sm (Ba n++r)=some (n,r):=by
 obtain⟨e1,e2⟩:=Qh8 (Nt n) hr;unfold Sm;rw[e1,e2,Cl.2 ⟨h,rfl⟩]
theorem At{fs:List Fd}{n:Nat}{f:Fd}(h:Au fs n=some f):f.tag=n/\f∈fs:=by
 unfold Au at h;have:=List.find?_some h;exact⟨by simpa using this,List.mem_of_find?_eq_some h⟩
theorem Kh{fs:List Fd}{s r:List UInt8}{f:Fd}(h:G0 fs s=some (f,r)):f.tag<=200/\Au fs f.tag=some f/\s=Ba f.tag++r/\Sg r:=by
 unfold G0 at h;cases hn:Sm s with
 |none=>rw[hn]at h;cases h
 |some q=>
  obtain⟨n,z⟩:=q;rw[hn]at h;simp only at h;split at h
  ·rename_i h2;cases hf:Au fs n with
   |none=>rw[hf]at h;cases h
   |some g=>
    rw[hf]at h;simp only[aj,aE]at h;obtain⟨rfl,rfl⟩:=h;have e:=(At hf).1;obtain⟨_,e2,e3⟩:=Qaz hn;rw[e];exact⟨h2,hf,e2,e3⟩
  cases h
theorem Qdf{fs:List Fd}{f:Fd}{r:List UInt8}(h:f.tag<=200)(hf:Au fs f.tag=some f)(hr:Sg r):G0 fs (Ba f.tag++r)=some (f,r):=by
 unfold G0;rw[Qc8 aH hr];simp[h,hf]
theorem Qey:Co 39=false:=aJ
theorem Qbd{s b r:List UInt8}:Pd s=some (b,r)↔Dt b=true/\s=39::(b++39::r):=by
 unfold Pd;cases h:Av 39 s with
 |none=>
  simp only[reduceCtorEq,false_iff,not_and];rintro _ rfl;rw[Bv]at h;cases h
 |some q=>
  rw[Cu]at h;subst h;simp only[List.cons.injEq,true_and];cases h:Av 39 (q.dropWhile Co)with
  |none=>
   simp only[reduceCtorEq,false_iff,not_and];rintro hb rfl;have hb2:b.all Co=true:=by unfold Dt at hb;simp only[aw]at hb;exact hb.2
   rw[(Gh hb2 ⟨39,r,rfl,Qey⟩).2,Bv]at h;cases h
  |some z=>
   rw[Cu]at h;have eq:q=q.takeWhile Co++39::z:=by rw[<-h,List.takeWhile_append_dropWhile]
   simp only;constructor
   ·intro h2;split at h2
    ·rename_i hl;simp only[aj,aE]at h2;obtain⟨rfl,rfl⟩:=h2;exact⟨by unfold Dt;simp only[aw];exact⟨by simpa using hl,Km q⟩,eq⟩
    cases h2
   rintro⟨hb,rfl⟩;unfold Dt at hb;simp only[aw,decide_eq_true_eq]at hb;obtain⟨e1,e2⟩:=Gh hb.2 ⟨39,r,rfl,Qey⟩;rw[e2]at h;injection h with _ h;subst h;rw[e1,if_pos hb.1]
theorem Z6{s r:List UInt8}{b:Bool}:Qx s=some (b,r)↔s=(if b then Ev else M5)++r:=by
 unfold Qx;cases h:Gq Ev s with
 |some q=>
  rw[Gw]at h;subst h;cases b<;>simp[Ev,M5]
 |none=>
  simp only;cases h2:Gq M5 s with
  |some q=>
   rw[Gw]at h2;subst h2;cases b<;>simp[Ev,M5]
  |none=>
   simp only[reduceCtorEq,false_iff];rintro rfl;cases b
   ·rw[show Gq M5 ((if false=true then Ev else M5)++r)=some r from Gw.2 rfl]at h2;cases h2
   rw[show Gq Ev ((if true=true then Ev else M5)++r)=some r from Gw.2 rfl]at h;cases h
theorem Qd5{K:List UInt8->Option (Vl × List UInt8)}{P:Vl->Prop}(hK:∀s v r,K s=some (v,r)->P v/\s=Az v++r):∀(m:Nat) (s:List UInt8) (vs:List Vl) (r:List UInt8),
  Db K m s=some (vs,r)->vs≠[]/\vs.length<=m/\(∀x∈vs,P x)/\s=Aw 44 (vs.map Az)++93::r:=by
 intro m;induction m with
 |zero=>intro s vs r h;cases h
 |succ m ih=>
  intro s vs r h;unfold Db at h;cases hk:K s with
  |none=>rw[hk]at h;cases h
  |some q=>
   obtain⟨v,z⟩:=q;rw[hk]at h;simp only at h;obtain⟨hp,rfl⟩:=hK _ _ _ hk;cases hb:Av 44 z with
   |some q=>
    rw[hb]at h;simp only at h;cases hi:Db K m q with
    |none=>rw[hi]at h;cases h
    |some y=>
     obtain⟨us,y⟩:=y;rw[hi]at h;simp only[aj,aE]at h;obtain⟨rfl,rfl⟩:=h;obtain⟨h1,h2,h3,h4⟩:=ih _ _ _ hi;rw[Cu]at hb;subst hb;refine⟨by simp,by simp;omega,by simpa using⟨hp,h3⟩,?_⟩;rw[ay,Cy 44 _ eX,h4];simp
   |none=>
    rw[hb]at h;simp only at h;cases hb:Av 93 z with
    |none=>rw[hb]at h;cases h
    |some q=>
     rw[hb]at h;simp only[aj,aE]at h;obtain⟨rfl,rfl⟩:=h;rw[Cu]at hb;subst hb;exact⟨by simp,by simp,by simpa using hp,by simp[Aw]⟩
theorem Xh{K:List UInt8->Option (Vl × List UInt8)}:∀(m:Nat) (vs:List Vl) (r:List UInt8),(∀x∈vs,∀r,Sg r->K (Az x++r)=some (x,r))->vs≠[]->vs.length<=m ->
  Db K m (Aw 44 (vs.map Az)++93::r)=some (vs,r)
 |0,vs,r,_,h,hl=>by cases vs with|nil=>exact absurd rfl h|cons=>simp at hl
 |m+1,[],r,_,h,_=>absurd rfl h
 |m+1,[x],r,hK,_,_=>by
  have e:=hK x aK (93::r) (Kg _ aJ);simp only[ay,List.map_nil,Aw];unfold Db;rw[e];simp only[Dm (show (93:UInt8)≠44 by decide),Bv]
 |m+1,x::y::vs,r,hK,_,hl=>by
  have ih:=Xh m (y::vs) r (fun z hz=>hK z ff) aK fW;have e:=hK x aK (44::(Aw 44 ((y::vs).map Az)++93::r)) (Kg _ aJ);rw[ay,Cy 44 _ aK,List.append_assoc,av];unfold Db;rw[e];simp only[Bv,ih]
theorem Sr{K:Kd->List UInt8->Option (Vl × List UInt8)}{P:Fd->Vl->Prop}{fs:List Fd}(hK:∀f∈fs,∀s v r,K f.kind s=some (v,r)->P f v/\s=Az v++r){s r:List UInt8}{p:Fd × Vl}
  (h:Dj K fs s=some (p,r)):p.1.tag<=200/\Au fs p.1.tag=some p.1/\P p.1 p.2/\s=Az (Dk p)++r:=by
 unfold Dj at h;cases ht:G0 fs s with
 |none=>rw[ht]at h;cases h
 |some q=>
  obtain⟨f,z⟩:=q;rw[ht]at h;simp only at h;obtain⟨h1,h2,rfl,_⟩:=Kh ht;cases hb:Av 61 z with
  |none=>rw[hb]at h;cases h
  |some q=>
   rw[hb]at h;simp only at h;rw[Cu]at hb;subst hb;cases hk:K f.kind q with
   |none=>rw[hk]at h;cases h
   |some y=>
    obtain⟨v,y⟩:=y;rw[hk]at h;simp only[aj,aE]at h;obtain⟨rfl,rfl⟩:=h;obtain⟨h3,rfl⟩:=hK f (At h2).2 _ _ _ hk;exact⟨h1,h2,h3,by simp[Dk,Az,D3,H4,Aw]⟩
theorem S8{K:Kd->List UInt8->Option (Vl × List UInt8)}{fs:List Fd}{p:Fd × Vl}{r:List UInt8}(h1:p.1.tag<=200)(h2:Au fs p.1.tag=some p.1)(hK:K p.1.kind (Az p.2++r)=some (p.2,r)):
  Dj K fs (Az (Dk p)++r)=some (p,r):=by
 have e:Az (Dk p)++r=Ba p.1.tag++(61::(Az p.2++r)):=by simp[Dk,Az,D3,H4,Aw]
 rw[e];unfold Dj;rw[Qdf h1 h2 (Kg _ aJ)];simp only[Bv,hK]
theorem Qge{S:List Ty}{K:Kd->List UInt8->Option (Vl × List UInt8)}{P:Fd->Vl->Prop}{fs:List Fd}(hK:∀f∈fs,∀s v r,K f.kind s=some (v,r)->P f v/\s=Az v++r):∀(m last:Nat) (s:List UInt8) (ps:List (Fd × Vl)) (r:List UInt8),
  El S K fs m last s=some (ps,r)->ps≠[]/\(∀p∈ps,last<p.1.tag/\Au fs p.1.tag=some p.1/\P p.1 p.2/\Az p.2≠G9 S p.1)/\(ps.Pairwise fun p q=>p.1.tag<q.1.tag)/\s=Aw 44 (ps.map fun p=>Az (Dk p))++125::r:=by
 intro m;induction m with
 |zero=>intro last s ps r h;cases h
 |succ m ih=>
  intro last s ps r h;unfold El at h;cases hk:Dj K fs s with
  |none=>rw[hk]at h;cases h
  |some q=>
   obtain⟨p,z⟩:=q;rw[hk]at h;simp only at h;obtain⟨h1,h2,h3,rfl⟩:=Sr hK hk;split at h
   ·cases h
   rename_i hno;have hno1:last<p.1.tag:=aH;have hno2:Az p.2≠G9 S p.1:=fun e=>hno (.inr e);cases hb:Av 44 z with
   |some q=>
    rw[hb]at h;simp only at h;cases hi:El S K fs m p.1.tag q with
    |none=>rw[hi]at h;cases h
    |some y=>
     obtain⟨us,y⟩:=y;rw[hi]at h;simp only[aj,aE]at h;obtain⟨rfl,rfl⟩:=h;obtain⟨i1,i2,i3,i4⟩:=ih _ _ _ _ hi;rw[Cu]at hb;subst hb;refine⟨by simp,?_,?_,?_⟩
     ·intro x hx;rcases aA.1 hx with rfl|hx
      ·exact⟨hno1,h2,h3,hno2⟩
      obtain⟨j1,j2⟩:=i2 x hx;exact⟨by omega,j2⟩
     ·exact List.pairwise_cons.2 ⟨fun x hx=>(i2 x hx).1,i3⟩
     rw[ay,Cy 44 _ (by simpa using i1),i4];simp
   |none=>
    rw[hb]at h;simp only at h;cases hb:Av 125 z with
    |none=>rw[hb]at h;cases h
    |some q=>
     rw[hb]at h;simp only[aj,aE]at h;obtain⟨rfl,rfl⟩:=h;rw[Cu]at hb;subst hb;refine⟨by simp,?_,by simp,by simp[Aw]⟩;intro x hx;rw[aq]at hx;subst hx;exact⟨hno1,h2,h3,hno2⟩
theorem Y6{S:List Ty}{K:Kd->List UInt8->Option (Vl × List UInt8)}{fs:List Fd}:∀(m last:Nat) (ps:List (Fd × Vl)) (r:List UInt8),
  (∀p∈ps,∀r,Sg r->K p.1.kind (Az p.2++r)=some (p.2,r))->ps≠[]->(∀p∈ps,last<p.1.tag/\p.1.tag<=200/\Au fs p.1.tag=some p.1/\Az p.2≠G9 S p.1)->(ps.Pairwise fun p q=>p.1.tag<q.1.tag)->201<=m+last ->
  El S K fs m last (Aw 44 (ps.map fun p=>Az (Dk p))++125::r)=some (ps,r)
 |0,last,[],r,_,h,_,_,_=>absurd rfl h
 |0,last,p::ps,r,_,_,hp,_,hl=>by have:=hp p aK;omega
 |m+1,last,[],r,_,h,_,_,_=>absurd rfl h
 |m+1,last,[p],r,hK,_,hp,_,hl=>by
  obtain⟨h1,h2,h3,h4⟩:=hp p aK;have e:=S8 h2 h3 (hK p aK (125::r) (Kg _ aJ));simp only[ay,List.map_nil,Aw];unfold El;rw[e];simp only;rw[if_neg cT];simp only[Dm (show (125:UInt8)≠44 by decide),Bv]
 |m+1,last,p::q::ps,r,hK,_,hp,hw,hl=>by
  obtain⟨h1,h2,h3,h4⟩:=hp p aK;obtain⟨w1,w2⟩:=List.pairwise_cons.1 hw;have ih:=Y6 m p.1.tag (q::ps) r (fun z hz=>hK z ff) aK (fun z hz=>⟨w1 z hz,(hp z ff).2⟩) w2 aH;have e:=S8 (K:=K) h2 h3 (hK p aK (44::(Aw 44 ((q::ps).map fun p=>Az (Dk p))++125::r)) (Kg _ aJ));rw[ay,Cy 44 _ aK,List.append_assoc,av];unfold El;rw[e];simp only;rw[if_neg cT];simp only[Bv,ih]
theorem Nz{k:Kd}(h:Ck k){c:UInt8}{t:List UInt8}(hs:k.signs=c::t):c=91\/c=63:=by
 have:=h.1;rw[hs]at this;simp only[List.all_cons,aw,Bn,Bool.or_eq_true,beq_iff_eq]at this;exact this.1
theorem K0{S:List Ty}(hS:∀t∈S,Fi t){n:List UInt8}{t:Ty}(ht:Bk S n=some t)(h9:t.sort≠69){f:Fd}(hf:f∈t.fields):Ck f.kind/\f.tag<=200:=by
 have h:=(hS t (Cf ht).1).2.2.1.1 f hf;exact⟨(h.2.2.2.2 h9).1,h.2.1⟩
theorem Kl(fs:List (Fd × Vl)):Az (.mk 82 [] 0 (fs.map Dk))=123::(Aw 44 (fs.map fun p=>Az (Dk p))++[125]):=by
 simp[Az,Tf,H4];rfl
theorem Ji(ks:List Vl):Az (.mk 91 [] 0 ks)=91::(Aw 44 (ks.map Az)++[93]):=by simp[Az,Tf,H4]
theorem Td(f:Fd)(x:Vl):Az (.mk 85 [] f.tag [x])=60::(Az (Dk (f,x))++[62]):=by simp[Az,D3,H4,Dk,Aw]
theorem Gy{S:List Ty}(hS:∀t∈S,Fi t)(m:Nat):∀(d:Nat) (k:Kd) (s:List UInt8) (v:Vl) (r:List UInt8),Ck k->Ar S m d k s=some (v,r)->Ha S d k v/\s=Az v++r:=by
 intro d;induction d with
 |zero=>intro k s v r _ h;cases h
 |succ d ih=>
  intro k s v r hk h;unfold Ar at h;cases hs:k.signs with
  |cons c t=>
   rw[hs]at h;simp only at h;have hp:=(Js hk).1;by_cases h91:c=91
   ·subst h91;rw[if_pos rfl]at h;unfold Xx at h;cases hb:Av 91 s with
    |none=>rw[hb]at h;cases h
    |some q=>
     rw[hb]at h;simp only at h;rw[Cu]at hb;subst hb;cases hb:Av 93 q with
     |some z=>
      rw[hb]at h;simp only[aj,aE]at h;obtain⟨rfl,rfl⟩:=h;rw[Cu]at hb;subst hb;exact⟨.lst hs aK aK,by rw[Ji];rfl⟩
     |none=>
      rw[hb]at h;simp only at h;cases hi:Db (Ar S m d k.part) m q with
      |none=>rw[hi]at h;cases h
      |some y=>
       obtain⟨us,y⟩:=y;rw[hi]at h;simp only at h;split at h
       ·rename_i hl;simp only[aj,aE]at h;obtain⟨rfl,rfl⟩:=h;obtain⟨_,_,i3,i4⟩:=Qd5 (P:=Ha S d k.part) (fun s v r h=>ih _ _ _ _ hp h) _ _ _ _ hi;exact⟨.lst hs hl i3,by rw[Ji,i4];simp⟩
       cases h
   have h63:=(Nz hk hs).resolve_left h91;subst h63;rw[if_neg h91]at h;unfold Qd4 at h;cases hb:Av 45 s with
   |some q=>
    rw[hb]at h;simp only[aj,aE]at h;obtain⟨rfl,rfl⟩:=h;rw[Cu]at hb;subst hb;exact⟨.non hs,rfl⟩
   |none=>
    rw[hb]at h;simp only at h;cases hb:Av 43 s with
    |none=>rw[hb]at h;cases h
    |some q=>
     rw[hb]at h;simp only at h;rw[Cu]at hb;subst hb;cases hi:Ar S m d k.part q with
     |none=>rw[hi]at h;cases h
     |some y=>
      obtain⟨x,y⟩:=y;rw[hi]at h;simp only[aj,aE]at h;obtain⟨rfl,rfl⟩:=h;obtain⟨i1,rfl⟩:=ih _ _ _ _ hp hi;exact⟨.som hs i1,by simp[Az,D3,H4,Aw]⟩
  |nil=>
   rw[hs]at h;simp only at h;split at h
   ·rename_i hb;cases hn:Sm s with
    |none=>rw[hn]at h;cases h
    |some q=>
     obtain⟨n,q⟩:=q;rw[hn]at h;simp only[aj,aE]at h;obtain⟨rfl,rfl⟩:=h;obtain⟨h1,h2,_⟩:=Qaz hn;exact⟨.n hs hb h1,by rw[h2];simp[Az,D3,H4]⟩
   split at h
   ·rename_i hb;cases hn:Pd s with
    |none=>rw[hn]at h;cases h
    |some q=>
     obtain⟨x,q⟩:=q;rw[hn]at h;simp only[aj,aE]at h;obtain⟨rfl,rfl⟩:=h;obtain⟨h1,rfl⟩:=Qbd.1 hn;exact⟨.t hs hb h1,by simp[Az,D3,H4]⟩
   split at h
   ·rename_i hb;cases hn:Qx s with
    |none=>rw[hn]at h;cases h
    |some q=>
     obtain⟨x,q⟩:=q;rw[hn]at h;simp only[aj,aE]at h;obtain⟨rfl,rfl⟩:=h;have:=Z6.1 hn;exact⟨.f hs hb,by rw[this];simp[Az,D3,H4]⟩
   rename_i b1 b2 b3;have hb:k.base=[64]:=by
    rcases hk.2.1 with h|⟨h|h|h,_⟩
    ·exact h.1
    ·exact absurd h b1
    ·exact absurd h b2
    exact absurd h b3
   cases ht:Bk S k.name with
   |none=>rw[ht]at h;cases h
   |some t=>
    rw[ht]at h;simp only at h;unfold Kv at h;by_cases h9:t.sort=69
    ·rw[if_pos h9]at h;cases hb3:Av 35 s with
     |none=>rw[hb3]at h;cases h
     |some q=>
      rw[hb3]at h;simp only at h;rw[Cu]at hb3;subst hb3;cases hg:G0 t.fields q with
      |none=>rw[hg]at h;cases h
      |some y=>
       obtain⟨f,y⟩:=y;rw[hg]at h;simp only[aj,aE]at h;obtain⟨rfl,rfl⟩:=h;obtain⟨_,h2,h3,_⟩:=Kh hg;exact⟨.enm hs hb ht h9 h2,by rw[h3];simp[Az,D3,H4]⟩
    rw[if_neg h9]at h;have hK:∀f∈t.fields,∀s v r,Ar S m d f.kind s=some (v,r)->Ha S d f.kind v/\s=Az v++r:=fun f hf s v r hr=>ih _ _ _ _ (K0 hS ht h9 hf).1 hr;by_cases h5:t.sort=85
    ·rw[if_pos h5]at h;cases hb3:Av 60 s with
     |none=>rw[hb3]at h;cases h
     |some q=>
      rw[hb3]at h;simp only at h;rw[Cu]at hb3;subst hb3;cases hg:Dj (Ar S m d) t.fields q with
      |none=>rw[hg]at h;cases h
      |some y=>
       obtain⟨p,y⟩:=y;rw[hg]at h;simp only at h;cases hb4:Av 62 y with
       |none=>rw[hb4]at h;cases h
       |some z=>
        rw[hb4]at h;simp only[aj,aE]at h;obtain⟨rfl,rfl⟩:=h;rw[Cu]at hb4;subst hb4;obtain⟨_,h2,h3,rfl⟩:=Sr (P:=fun f v=>Ha S d f.kind v) hK hg;exact⟨.uni hs hb ht h5 h2 h3,by rw[Td];simp⟩
    rw[if_neg h5]at h;have h2:t.sort=82:=by
     rcases(hS t (Cf ht).1).1 with h|h|h
     ·exact h
     ·exact absurd h h5
     exact absurd h h9
    cases hb3:Av 123 s with
    |none=>rw[hb3]at h;cases h
    |some q=>
     rw[hb3]at h;simp only at h;rw[Cu]at hb3;subst hb3;cases hb4:Av 125 q with
     |some z=>
      rw[hb4]at h;simp only[aj,aE]at h;obtain⟨rfl,rfl⟩:=h;rw[Cu]at hb4;subst hb4;exact⟨.rcd (fs:=[]) hs hb ht h2 aK aK aK aK,rfl⟩
     |none=>
      rw[hb4]at h;simp only at h;cases hg:El S (Ar S m d) t.fields 201 0 q with
      |none=>rw[hg]at h;cases h
      |some y=>
       obtain⟨ps,y⟩:=y;rw[hg]at h;simp only[aj,aE]at h;obtain⟨rfl,rfl⟩:=h;obtain⟨_,i2,i3,i4⟩:=Qge (P:=fun f v=>Ha S d f.kind v) hK _ _ _ _ _ hg;exact⟨.rcd hs hb ht h2 (fun p hp=>(i2 p hp).2.1) (fun p hp=>(i2 p hp).2.2.1) (fun p hp=>(i2 p hp).2.2.2) i3,by rw[Kl,i4];simp⟩
theorem Qeo{S:List Ty}{d:Nat}{k:Kd}{v:Vl}(h:Ha S d k v):∃c t,Az v=c::t/\c≠93/\c≠125/\c≠44:=by
 cases h with
 |@n _ _ m hs hb h=>
  have e:Az (.mk 110 (Ba m) 0 [])=Ba m:=by simp[Az,D3,H4]
  rw[e];cases hd:Ba m with
  |nil=>exact absurd hd (Tm m)
  |cons c t=>
   have:=Nt m;rw[hd,List.all_cons,aw,Dv]at this;refine⟨c,t,rfl,?_,?_,?_⟩<;>(rintro rfl;revert this;simp)
 |t=>exact⟨39,_,rfl,by decide,by decide,by decide⟩
 |@f _ _ b=>cases b<;>exact⟨_,_,rfl,by decide,by decide,by decide⟩
 |lst=>exact⟨91,_,rfl,by decide,by decide,by decide⟩
 |non=>exact⟨45,_,rfl,by decide,by decide,by decide⟩
 |som=>exact⟨43,_,rfl,by decide,by decide,by decide⟩
 |enm=>exact⟨35,_,rfl,by decide,by decide,by decide⟩
 |uni=>exact⟨60,_,rfl,by decide,by decide,by decide⟩
 |rcd=>exact⟨123,_,rfl,by decide,by decide,by decide⟩
theorem Mm{S:List Ty}(hS:∀t∈S,Fi t){m:Nat}(hm:20<=m):∀(d:Nat) (k:Kd) (v:Vl) (r:List UInt8),Ha S d k v->Sg r->Ar S m d k (Az v++r)=some (v,r):=by
 intro d;induction d with
 |zero=>intro k v r h;cases h
 |succ d ih=>
  intro k v r h hr;unfold Ar;cases h with
  |@n _ _ n hs hb h=>
   rw[hs];simp only;rw[if_pos hb];have e:Az (.mk 110 (Ba n) 0 [])=Ba n:=by simp[Az,D3,H4]
   rw[e,Qc8 h hr]
  |@t _ _ s hs hb h=>
   rw[hs];simp only;rw[if_neg bS,if_pos hb];rw[show Pd (Az (.mk 116 s 0 [])++r)=some (s,r)from Qbd.2 ⟨h,by simp[Az,D3,H4]⟩]
  |@f _ _ b hs hb=>
   rw[hs];simp only;rw[if_neg bS,if_neg bS,if_pos hb];rw[show Qx (Az (.mk 102 (if b then Ev else M5) 0 [])++r)=some (b,r)from Z6.2 (by cases b<;>simp[Az,D3,H4])]
  |@lst _ _ t ks hs hl h=>
   rw[hs];simp only;rw[if_pos Ac];unfold Xx;rw[Ji,av,Bv];simp only;cases ks with
   |nil=>rfl
   |cons x ks=>
    obtain⟨c,q,e1,e2,_⟩:=Qeo (h x aK);have e3:Av 93 (Aw 44 ((x::ks).map Az)++[93]++r)=none:=by
     cases ks with
     |nil=>simp only[ay,List.map_nil,Aw,e1,av,Dm e2]
     |cons y ks=>rw[ay,Cy 44 _ aK,e1];simp only[av,Dm e2]
    rw[e3];simp only;rw[List.append_assoc,List.singleton_append,Xh m (x::ks) r (fun y hy r hr=>ih _ _ _ (h y hy) hr) aK aH];simp only;rw[if_pos hl]
  |@non _ _ t hs=>rw[hs];rfl
  |@som _ _ t x hs h=>
   rw[hs];simp only;rw[if_neg aJ];have e:Az (.mk 63 [] 0 [x])=43::Az x:=by simp[Az,D3,H4,Aw]
   unfold Qd4;rw[e,av,Dm aJ,Bv];simp only;rw[ih _ _ _ h hr]
  |@enm _ _ t f hs hb ht h9 hf=>
   rw[hs];simp only;rw[if_neg bS,if_neg bS,if_neg bS,ht];simp only;unfold Kv;have h200:f.tag<=200:=((hS t (Cf ht).1).2.2.1.1 f (At hf).2).2.1;have e:Az (.mk 69 [] f.tag [])=35::Ba f.tag:=by simp[Az,D3,H4]
   rw[if_pos h9,e,av,Bv];simp only;rw[Qdf h200 hf hr]
  |@uni _ _ t f x hs hb ht h5 hf h=>
   rw[hs];simp only;rw[if_neg bS,if_neg bS,if_neg bS,ht];simp only;unfold Kv;have h9:t.sort≠69:=dH;rw[if_neg h9,if_pos h5,Td,av,Bv];simp only;rw[List.append_assoc,List.singleton_append,S8 (p:=(f,x)) (K0 hS ht h9 (At hf).2).2 hf (ih _ _ (62::r) h (Kg (c:=62) _ aJ))];simp only[Bv]
  |@rcd _ _ t fs hs hb ht h2 hf h hn hp=>
   rw[hs];simp only;rw[if_neg bS,if_neg bS,if_neg bS,ht];simp only;unfold Kv;have h9:t.sort≠69:=cW;rw[if_neg h9,if_neg cW,Kl,av,Bv];simp only;cases fs with
   |nil=>rfl
   |cons p fs=>
    have e3:Av 125 (Aw 44 ((p::fs).map fun p=>Az (Dk p))++[125]++r)=none:=by
     have e1:Az (Dk p)=Ba p.1.tag++61::Az p.2:=by simp[Dk,Az,D3,H4,Aw]
     cases hd:Ba p.1.tag with
     |nil=>exact absurd hd (Tm _)
     |cons c q=>
      have hc:=Nt p.1.tag;rw[hd,List.all_cons,aw,Dv]at hc;have e2:c≠125:=by rintro rfl;revert hc;simp
      rw[hd]at e1;cases fs with
      |nil=>simp only[ay,List.map_nil,Aw,e1,av,Dm e2]
      |cons y fs=>rw[ay,Cy 44 _ aK,e1];simp only[av,Dm e2]
    rw[e3];simp only
    rw[List.append_assoc,List.singleton_append,Y6 201 0 (p::fs) r (fun q hq r hr=>ih _ _ _ (h q hq) hr) aK
     (fun q hq=>?_) hp aH]
    have hm:=(At (hf q hq)).2;have h1:=((hS t (Cf ht).1).2.2.1.1 q.1 hm).1;exact⟨h1,(K0 hS ht h9 hm).2,hf q hq,hn q hq⟩
theorem Qmb{S:List Ty}(hS:∀t∈S,Fi t){d:Nat}{k:Kd}{v u:Vl}(hv:Ha S d k v)(hu:Ha S d k u)(h:Az v=Az u):v=u:=by
 have h1:=Mm hS (An 20) d k v [] hv Pc;have h2:=Mm hS (An 20) d k u [] hu Pc;rw[h,h2]at h1;injection h1 with h1;injection h1 with h1;exact h1.symm
def Gs(S:List Ty)(k:Kd)(s:List UInt8):Option Vl:=
 if 400<s.length then none else match Ar S 20 12 k s with
  |some (v,[])=>some v
  |_=>none
theorem Gk{S:List Ty}(hS:∀t∈S,Fi t){k:Kd}(hk:Ck k){s:List UInt8}{v:Vl}:Gs S k s=some v↔Ha S 12 k v/\Az v=s/\s.length<=400:=by
 unfold Gs;constructor
 ·intro h;split at h
  ·cases h
  rename_i hl;cases hr:Ar S 20 12 k s with
  |none=>rw[hr]at h;cases h
  |some q=>
   obtain⟨x,r⟩:=q;rw[hr]at h;cases r with
   |cons c t=>cases h
   |nil=>
    simp only[aj]at h;subst h;obtain⟨h1,h2⟩:=Gy hS 20 12 k s x [] hk hr;exact⟨h1,by rw[h2,List.append_nil],by omega⟩
 rintro⟨h1,rfl,hl⟩;rw[if_neg aH];have:=Mm hS (An 20) 12 k v [] h1 Pc;rw[List.append_nil]at this;rw[this]
theorem Qit{S:List Ty}(hS:∀t∈S,Fi t){k:Kd}(hk:Ck k){s:List UInt8}(hl:s.length<=400)(m n:Nat)(hm:20<=m)(hn:12<=n):
  Gs S k s=match Ar S m n k s with|some (v,[])=>if M9 v<=12 then some v else none|_=>none:=by
 cases hr:Ar S m n k s with
 |none=>
  cases hv:Gs S k s with
  |none=>rfl
  |some v=>
   obtain⟨h1,h2,_⟩:=(Gk hS hk).1 hv;have h3:Ha S n k v:=(Gz S _ _ _ h1 n).2 (ad ((Gz S _ _ _ h1 12).1 h1) hn);have:=Mm hS hm n k v [] h3 Pc;rw[List.append_nil,h2,hr]at this;cases this
 |some q=>
  obtain⟨x,r⟩:=q;obtain⟨h1,h2⟩:=Gy hS m n k s x r hk hr;cases r with
  |nil=>
   simp only;rw[List.append_nil]at h2;by_cases hd:M9 x<=12
   ·rw[if_pos hd,Gk hS hk];exact⟨(Gz S _ _ _ h1 12).2 hd,h2.symm,hl⟩
   rw[if_neg hd];cases hv:Gs S k s with
   |none=>rfl
   |some v=>
    obtain⟨i1,i2,_⟩:=(Gk hS hk).1 hv;have h3:Ha S n k v:=(Gz S _ _ _ i1 n).2 (ad ((Gz S _ _ _ i1 12).1 i1) hn);have e:=Qmb hS h3 h1 (by rw[i2,h2]);subst e;exact absurd ((Gz S _ _ _ i1 12).1 i1) hd
  |cons c t=>
   simp only;cases hv:Gs S k s with
   |none=>rfl
   |some v=>
    obtain⟨i1,i2,_⟩:=(Gk hS hk).1 hv;have h3:Ha S n k v:=(Gz S _ _ _ i1 n).2 (ad ((Gz S _ _ _ i1 12).1 i1) hn);have:=Mm hS hm n k v [] h3 Pc;rw[List.append_nil,i2,hr]at this;injection this with this;injection this with _ this;cases this
end
section
attribute [local go_sem] Qnf Qmu Qk2
theorem Xm(s p:List UInt8):(s.take p.length == p)=p.isPrefixOf s:=by
 rw[Bool.eq_iff_iff,beq_iff_eq,List.isPrefixOf_iff_prefix,List.prefix_iff_eq_take];exact eq_comm
theorem Xq(s p:List UInt8)(h:¬p.length<=s.length):p.isPrefixOf s=false:=by
 rw[Bool.eq_false_iff,Ne,List.isPrefixOf_iff_prefix];intro hp;exact h hp.length_le
theorem Yt(s p:List UInt8)(w:World):
  Calls prog 194 #[s,p] w fun e w'=>e=.returned (.bool (p.isPrefixOf s))/\w=w':=by
 by_cases h:p.length<=s.length
 ·have HS:=Aa (Xm s p);go_enter func194,ntmps194;go_wp2
  go_ret;exact⟨by rw[<-HS.o];rfl,rfl⟩
 have HS:=Aa (Xq s p h);go_enter func194,ntmps194;go_wp2
 go_ret;exact⟨by rw[HS.o];rfl,rfl⟩
def Q8(R:Cn->Cn->Prop)(a b:Kd):Prop:=a.signs=b.signs/\a.base=b.base/\(a.base=[64]->R a.name b.name)
def Nv(S T:List Ty)(R:Cn->Cn->Prop)(t:Ty)(st:UInt8)(g:Fd):Prop:=
 match Au t.fields g.tag with
 |none=>st=82
 |some f=>st=69\/(Q8 R f.kind g.kind/\(st=82->G9 S f=G9 T g))
def Zy(S T:List Ty)(R:Cn->Cn->Prop)(a b:Cn):Prop:=∃t u,Bk S a=some t/\Bk T b=some u/\t.sort=u.sort/\∀g∈u.fields,Nv S T R t u.sort g
def Zs(S T:List Ty)(R:Cn->Cn->Prop):Prop:=∀a b,R a b->Zy S T R a b
abbrev inM(m:List C9)(a b:Cn):Prop:=(a,b)∈m
theorem Q8.mono{R Q:Cn->Cn->Prop}(h:∀a b,R a b->Q a b){a b:Kd}(hk:Q8 R a b):Q8 Q a b:=⟨hk.1,hk.2.1,fun e=>h _ _ (hk.2.2 e)⟩
theorem Nv.mono{S T:List Ty}{R Q:Cn->Cn->Prop}(h:∀a b,R a b->Q a b){t:Ty}{st:UInt8}{g:Fd}(hk:Nv S T R t st g):Nv S T Q t st g:=by
 unfold Nv at hk ⊢;cases hf:Au t.fields g.tag with
 |none=>rw[hf]at hk;exact hk
 |some f=>
  rw[hf]at hk;rcases hk with hk|⟨x,y⟩
  ·exact .inl hk
  exact .inr ⟨x.mono h,y⟩
theorem Zy.mono{S T:List Ty}{R Q:Cn->Cn->Prop}(h:∀a b,R a b->Q a b){a b:Cn}(hk:Zy S T R a b):Zy S T Q a b:=by
 obtain⟨t,u,e1,e2,e3,e4⟩:=hk;exact⟨t,u,e1,e2,e3,fun g hg=>(e4 g hg).mono h⟩
def Qbb(S T:List Ty)(m m':List C9):Prop:=∀a b,(a,b)∈m'->(a,b)∉m->Zy S T (inM m') a b
theorem Qbb.trans{S T:List Ty}{m1 m2 m3:List C9}(h1:Qbb S T m1 m2)(h2:Qbb S T m2 m3)(hs:∀p∈m2,p∈m3):Qbb S T m1 m3:=by
 intro a b h3 hn;by_cases h:(a,b)∈m2
 ·exact(h1 a b h hn).mono fun x y hxy=>hs _ hxy
 exact h2 a b h3 h
def Qmm(S T:List Ty)(n:Nat)(K:Kd->Kd->List C9->Bool × List C9):Prop:=
 ∀a b m,Kt S T m->64<n+m.length->(K a b m).1=true->Q8 (inM (K a b m).2) a b/\Qbb S T m (K a b m).2
theorem Re{S T:List Ty}{n:Nat}{K:Kd->Kd->List C9->Bool × List C9}(hg:Qi2 S T K)(hK:Qmm S T n K)(t:Ty)(st:UInt8):
  ∀(gs:List Fd) (m:List C9),Kt S T m->64<n+m.length->(Xo S T K t st gs m).1=true->(∀g∈gs,Nv S T (inM (Xo S T K t st gs m).2) t st g)/\Qbb S T m (Xo S T K t st gs m).2
 |[],m,_,_,_=>⟨by simp,fun a b h hn=>absurd h hn⟩
 |g::gs,m,hm,hn,h=>by
  unfold Xo at h ⊢;cases hf:Au t.fields g.tag with
  |none=>
   rw[hf]at h;simp only at h ⊢;split at h
   ·rename_i h82;rw[if_pos h82];obtain⟨i1,i2⟩:=Re hg hK t st gs m hm hn h;refine⟨fun x hx=>?_,i2⟩;rcases aA.1 hx with rfl|hx
    ·unfold Nv;rw[hf];exact h82
    exact i1 x hx
   cases h
  |some f=>
   rw[hf]at h;simp only at h ⊢;split at h
   ·rename_i h69;rw[if_pos h69];obtain⟨i1,i2⟩:=Re hg hK t st gs m hm hn h;refine⟨fun x hx=>?_,i2⟩;rcases aA.1 hx with rfl|hx
    ·unfold Nv;rw[hf];exact .inl h69
    exact i1 x hx
   rename_i h69;rw[if_neg h69];split at h
   ·cases h
   rename_i hk1;rw[if_neg hk1];split at h
   ·cases h
   rename_i hk2;rw[if_neg hk2];have hk1':(K f.kind g.kind m).1=true:=by simpa using hk1
   obtain⟨k1,k2⟩:=hK _ _ m hm hn hk1';obtain⟨g1,l,g2⟩:=hg f.kind g.kind m hm;have hn2:64<n+(K f.kind g.kind m).2.length:=by rw[g2,ah];omega
   obtain⟨i1,i2⟩:=Re hg hK t st gs _ g1 hn2 h;obtain⟨j1,l2,j2⟩:=Mh hg t st gs _ g1;have hsub:∀p∈(K f.kind g.kind m).2,p∈(Xo S T K t st gs (K f.kind g.kind m).2).2:=fun p hp=>by rw[j2];simp[hp]
   refine⟨fun x hx=>?_,k2.trans i2 hsub⟩;rcases aA.1 hx with rfl|hx
   ·unfold Nv;rw[hf];exact .inr ⟨k1.mono fun a b hab=>hsub _ hab,fun h82=>Decidable.byContradiction fun hne=>hk2 ⟨h82,hne⟩⟩
   exact i1 x hx
theorem Qat{S T:List Ty}(hS:S.length<=8)(hT:T.length<=8):∀n,Qmm S T n (J2 S T n)
 |0=>fun a b m hm hn h=>by
  have:=hm.len;have:S.length*T.length<=8*8:=Nat.mul_le_mul hS hT;omega
 |n+1=>fun a b m hm hn h=>by
  unfold J2 at h ⊢;split at h
  ·cases h
  rename_i hsb;rw[if_neg hsb];have hs1:a.signs=b.signs:=Decidable.byContradiction fun hh=>hsb (.inl hh);have hs2:a.base=b.base:=Decidable.byContradiction fun hh=>hsb (.inr hh);split at h
  ·rename_i hb;rw[if_pos hb];exact⟨⟨hs1,hs2,fun e=>absurd e hb⟩,fun a b h hn=>absurd h hn⟩
  rename_i hb;rw[if_neg hb];cases h1:Bk S a.name with
  |none=>rw[h1]at h;cases h
  |some t=>cases h2:Bk T b.name with
   |none=>rw[h1,h2]at h;cases h
   |some u=>
    rw[h1,h2]at h;simp only at h ⊢;split at h
    ·rename_i hin;rw[if_pos hin];exact⟨⟨hs1,hs2,fun _=>hin⟩,fun a b h hn=>absurd h hn⟩
    rename_i hin;rw[if_neg hin];have hm2:=hm.snoc (Gi.1 (by rw[h1];rfl)) (Gi.1 (by rw[h2];rfl)) hin;unfold evT at h ⊢;split at h
    ·cases h
    rename_i hso;rw[if_neg hso];obtain⟨i1,i2⟩:=Re (Nu S T n) (Qat hS hT n) t u.sort u.fields _ hm2 aM h;obtain⟨j1,l2,j2⟩:=Mh (Nu S T n) t u.sort u.fields _ hm2;have hab:(a.name,b.name)∈(Xo S T (J2 S T n) t u.sort u.fields (m++[(a.name,b.name)])).2:=by rw[j2];simp
    refine⟨⟨hs1,hs2,fun _=>hab⟩,fun x y hxy hn2=>?_⟩;by_cases he:(x,y)=(a.name,b.name)
    ·injection he with e1 e2;subst e1;subst e2;exact⟨t,u,h1,h2,by simpa using hso,i1⟩
    exact i2 x y hxy (by simp only[af,aq,not_or];exact⟨hn2,he⟩)
theorem Pk{S T:List Ty}(hS:S.length<=8)(hT:T.length<=8){a b:Kd}(h:Jk S T a b=true):∃R,Zs S T R/\Q8 R a b:=by
 obtain⟨h1,h2⟩:=Qat hS hT 65 a b [] (Kt.nil S T) aK h;exact⟨_,fun x y hxy=>h2 x y hxy aK,h1⟩
def Qaq(ρ:Cn->Cn)(k:Kd):Kd:=if k.base=[64]then {k with name:=ρ k.name} else k
def Xt(ρ:Cn->Cn)(st:UInt8)(f:Fd):Fd:=if st=69 then f else {f with kind:=Qaq ρ f.kind}
def Qch(ρ:Cn->Cn)(t:Ty):Ty:={t with name:=ρ t.name,fields:=t.fields.map (Xt ρ t.sort)}
theorem Yq(ρ:Cn->Cn)(k:Kd):(Qaq ρ k).signs=k.signs:=by unfold Qaq;split<;>rfl
theorem Rl(ρ:Cn->Cn)(k:Kd):(Qaq ρ k).base=k.base:=by unfold Qaq;split<;>rfl
theorem Nx{ρ:Cn->Cn}{k:Kd}(h:k.base=[64]):(Qaq ρ k).name=ρ k.name:=by unfold Qaq;rw[if_pos h]
theorem Qji(ρ:Cn->Cn)(st:UInt8)(f:Fd):(Xt ρ st f).tag=f.tag:=by unfold Xt;split<;>rfl
theorem Qfb(ρ:Cn->Cn)(st:UInt8)(f:Fd):(Xt ρ st f).given=f.given:=by unfold Xt;split<;>rfl
theorem Rm{ρ:Cn->Cn}{st:UInt8}(h:st≠69)(f:Fd):(Xt ρ st f).kind=Qaq ρ f.kind:=by unfold Xt;rw[if_neg h]
def inN(ns:List Cn)(k:Kd):Prop:=k.base=[64]->k.name∈ns
structure Ren(S T:List Ty)(ns:List Cn)(ρ:Cn->Cn):Prop where
 get:∀n∈ns,∃t,Bk S n=some t/\Bk T (ρ n)=some (Qch ρ t)/\Fi t/\(t.sort≠69->∀f∈t.fields,inN ns f.kind)
 inj:∀a∈ns,∀b∈ns,ρ a=ρ b->a=b
theorem Ren.met{S T:List Ty}{ns:List Cn}{ρ:Cn->Cn}(h:Ren S T ns ρ):∀(n:Nat) (k:Kd) (out:List Cn),inN ns k->(∀x∈out,x∈ns) ->
  Vv T n (Qaq ρ k) (out.map ρ)=(Vv S n k out).map ρ/\∀x∈Vv S n k out,x∈ns
 |0,k,out,_,ho=>⟨rfl,ho⟩
 |n+1,k,out,hk,ho=>by
  by_cases hb:k.base=[64]
  ·have hkn:=hk hb;have hmem:ρ k.name∈out.map ρ↔k.name∈out:=by
    rw[ax];exact⟨fun⟨y,hy,e⟩=>by rw[<-h.inj y (ho y hy) k.name hkn e];exact hy,fun hy=>⟨_,hy,rfl⟩⟩
   by_cases hin:k.name∈out
   ·rw[Vv,Vv,if_neg (by rw[Nx hb];exact fun hh=>hh.2 (hmem.2 hin)),if_neg (fun hh=>hh.2 hin)];exact⟨rfl,ho⟩
   obtain⟨t,e1,e2,e3,e4⟩:=h.get _ hkn;have ho2:∀x∈out++[k.name],x∈ns:=fun x hx=>by
    rcases af.1 hx with hx|hx
    ·exact ho x hx
    simp at hx;subst hx;exact hkn
   rw[Vv,Vv,if_pos ⟨by rw[Rl];exact hb,by rw[Nx hb];exact fun hh=>hin (hmem.1 hh)⟩,if_pos ⟨hb,hin⟩,Nx hb,e1,e2];simp only;rw[show (Qch ρ t).sort=t.sort from rfl,show (Qch ρ t).fields=t.fields.map (Xt ρ t.sort)from rfl];have em:out.map ρ++[ρ k.name]=(out++[k.name]).map ρ:=aK;by_cases h69:t.sort=69
   ·rw[if_pos h69,if_pos h69];exact⟨em,ho2⟩
   rw[if_neg h69,if_neg h69,em];have key:∀(fs:List Fd),(∀f∈fs,inN ns f.kind)->∀(o:List Cn),(∀x∈o,x∈ns) ->
     (fs.map (Xt ρ t.sort)).foldl (fun o f=>Vv T n f.kind o) (o.map ρ)=(fs.foldl (fun o f=>Vv S n f.kind o) o).map ρ/\∀x∈fs.foldl (fun o f=>Vv S n f.kind o) o,x∈ns:=by
    intro fs;induction fs with
    |nil=>intro _ o ho;exact⟨rfl,ho⟩
    |cons f fs ih=>
     intro hfs o ho;obtain⟨m1,m2⟩:=h.met n f.kind o (hfs f aK) ho;simp only[ay,List.foldl_cons];rw[Rm h69,m1];exact ih (fun g hg=>hfs g (by simp[hg])) _ m2
   exact key t.fields (e4 h69) _ ho2
  rw[Vv,Vv,if_neg (fun hh=>hb (by rw[Rl]at hh;exact hh.1)),if_neg (fun hh=>hb hh.1)];exact⟨rfl,ho⟩
theorem Ren.stand{S T:List Ty}{ns:List Cn}{ρ:Cn->Cn}(h:Ren S T ns ρ):∀(n:Nat) (k:Kd),inN ns k->Qct k->Do T n (Qaq ρ k)=Do S n k
 |0,_,_,_=>rfl
 |n+1,k,hk,hb=>by
  rw[Do,Do,Yq,Rl];split
  ·rfl
  split
  ·rfl
  split
  ·rfl
  rename_i h1;split
  ·rfl
  rename_i h2;split
  ·rfl
  rename_i h3;have hb64:k.base=[64]:=by
   rcases hb with⟨hb,_⟩|⟨hb|hb|hb,_⟩
   ·exact hb
   ·exact absurd hb h1
   ·exact absurd hb h2
   exact absurd hb h3
  obtain⟨t,e1,e2,e3,e4⟩:=h.get _ (hk hb64);rw[Nx hb64,e1,e2];simp only;rw[show (Qch ρ t).sort=t.sort from rfl,show (Qch ρ t).fields=t.fields.map (Xt ρ t.sort)from rfl];split
  ·rfl
  cases hf:t.fields with
  |nil=>rfl
  |cons f fs=>
   simp only[ay];rw[Qji];split
   ·rfl
   rename_i h69;rw[Rm h69,h.stand n f.kind (e4 h69 f ei) ((e3.2.2.1.1 f ei).2.2.2.2 h69).1.2.1]
theorem Ren.of{S T:List Ty}{ns:List Cn}{ρ:Cn->Cn}(h:Ren S T ns ρ){st:UInt8}{f:Fd}(h69:st≠69)(hf:Tj st f)(hk:inN ns f.kind):G9 T (Xt ρ st f)=G9 S f:=by
 unfold G9;rw[Qfb,Rm h69];unfold Vp;rw[h.stand 10 f.kind hk (hf.2.2.2.2 h69).1.2.1]
theorem Qu{t:Ty}(hd:t.fields.Pairwise fun g f=>g.name≠f.name/\g.tag<f.tag){g:Fd}(hgm:g∈t.fields):Au t.fields g.tag=some g:=by
 cases h:Au t.fields g.tag with
 |none=>
  have:=List.find?_eq_none.1 h g hgm;simp at this
 |some f=>
  have hm:=List.mem_of_find?_eq_some h;have ht:=List.find?_some h;simp only[decide_eq_true_eq]at ht;obtain⟨i,hi,rfl⟩:=List.mem_iff_getElem.1 hm;obtain⟨j,hj,rfl⟩:=List.mem_iff_getElem.1 hgm;rw[List.pairwise_iff_getElem]at hd;rcases Nat.lt_trichotomy i j with hij|hij|hij
  ·have:=(hd i j hi hj hij).2;omega
  ·subst hij;rfl
  have:=(hd j i hj hi hij).2;omega
theorem Ren.ends{S T:List Ty}{ns:List Cn}{ρ:Cn->Cn}(h:Ren S T ns ρ):∀(n:Nat) (t:Ty),(t.sort≠69->∀f∈t.fields,inN ns f.kind)->Ca T n (Qch ρ t)=Ca S n t
 |0,_,_=>rfl
 |n+1,t,ht=>by
  unfold Ca;by_cases h85:t.sort=85
  ·have h69:t.sort≠69:=dX;unfold Fy;rw[show (Qch ρ t).sort=t.sort from rfl,show (Qch ρ t).fields=t.fields.map (Xt ρ t.sort)from rfl,if_pos h85,if_pos h85];cases hf:t.fields with
   |nil=>rfl
   |cons f fs=>
    simp only[ay];rw[Rm h69,Yq,Rl];by_cases hc:f.kind.signs=[]/\f.kind.base=[64]
    ·rw[if_pos hc,if_pos hc,Nx hc.2];obtain⟨u,e1,e2,e3,e4⟩:=h.get _ (ht h69 f ei hc.2);rw[e1,e2];exact h.ends n u e4
    rw[if_neg hc,if_neg hc]
  have e1:Fy T (Qch ρ t)=none:=if_neg h85;have e2:Fy S t=none:=if_neg h85;rw[e1,e2]
def Qhy(v:Vl):Vl:=v.kids.headD v
def N6(S:List Ty)(K:Kd->Vl->Vl × Bool)(fs:List Fd)(y:Vl):List Vl × Bool:=match Au fs y.tag with
 |none=>([],true)
 |some f=>if Az (K f.kind (Qhy y)).1=G9 S f then([],true)else([.mk 61 [] y.tag [(K f.kind (Qhy y)).1]],(K f.kind (Qhy y)).2)
def Dc(S:List Ty):Nat->Kd->Vl->Vl × Bool
 |0,_,v=>(v,false)
 |d+1,a,v=>
  if a.signs≠[]then(.mk v.what v.text v.tag (v.kids.map fun x=>(Dc S d a.part x).1),v.kids.any fun x=>(Dc S d a.part x).2)
  else if a.base≠[64]then(v,false)
  else match Bk S a.name with
   |none=>(v,false)
   |some t=>
    if v.what=85 then(match Au t.fields v.tag with
     |none=>(v,false)
     |some f=>(.mk v.what v.text v.tag (v.kids.map fun x=>(Dc S d f.kind x).1),v.kids.any fun x=>(Dc S d f.kind x).2))
    else if v.what=82 then(.mk v.what v.text v.tag (v.kids.flatMap fun y=>(N6 S (Dc S d) t.fields y).1),v.kids.any fun y=>(N6 S (Dc S d) t.fields y).2)
    else(v,false)
theorem Dg(S:List Ty)(d:Nat)(a:Kd)(w:UInt8)(tx:List UInt8)(tg:Nat)(ks:List Vl):Dc S (d+1) a (.mk w tx tg ks) =
  if a.signs≠[]then(.mk w tx tg (ks.map fun x=>(Dc S d a.part x).1),ks.any fun x=>(Dc S d a.part x).2)
  else if a.base≠[64]then(.mk w tx tg ks,false)
  else match Bk S a.name with
   |none=>(.mk w tx tg ks,false)
   |some t=>
    if w=85 then(match Au t.fields tg with
     |none=>(.mk w tx tg ks,false)
     |some f=>(.mk w tx tg (ks.map fun x=>(Dc S d f.kind x).1),ks.any fun x=>(Dc S d f.kind x).2))
    else if w=82 then(.mk w tx tg (ks.flatMap fun y=>(N6 S (Dc S d) t.fields y).1),ks.any fun y=>(N6 S (Dc S d) t.fields y).2)
    else(.mk w tx tg ks,false):=rfl
def LOk(v:Vl)(r:Vl × Bool):Prop:=(r.2=false->r.1=v)/\(r.2=true->(Az r.1).length<(Az v).length)
theorem LOk.le{v:Vl}{r:Vl × Bool}(h:LOk v r):(Az r.1).length<=(Az v).length:=by
 cases e:r.2 with
 |false=>rw[h.1 e];exact An _
 |true=>exact Nat.le_of_lt (h.2 e)
theorem LOk.same(v:Vl):LOk v (v,false):=⟨fun _=>rfl,fun h=>Bool.noConfusion h⟩
def Dh(ps:List (List UInt8)):Nat:=(ps.map fun p=>p.length+1).sum
theorem D7(p:List UInt8)(ps:List (List UInt8)):Dh (p::ps)=p.length+1+Dh ps:=dJ
theorem Bw(c:UInt8):∀ps:List (List UInt8),(Aw c ps).length=Dh ps - 1
 |[]=>rfl
 |[p]=>by simp[Aw,Dh]
 |p::q::ps=>by
  rw[Cy c p aK,ah,List.length_cons,Bw c (q::ps),D7 p,D7 q];omega
theorem Qk8{K:Vl->Vl × Bool}{ks:List Vl}(h:∀x∈ks,LOk x (K x)):
  ((ks.any fun x=>(K x).2)=false->(ks.map fun x=>(K x).1)=ks)/\Dh ((ks.map fun x=>(K x).1).map Az)<=Dh (ks.map Az)/\((ks.any fun x=>(K x).2)=true->Dh ((ks.map fun x=>(K x).1).map Az)<Dh (ks.map Az)):=by
 induction ks with
 |nil=>exact⟨fun _=>rfl,An _,fun h=>by simp at h⟩
 |cons x ks ih=>
  obtain⟨i1,i2,i3⟩:=ih fun y hy=>h y gk;have hx:=h x aK;have hl:=hx.le;simp only[ay,D7,List.any_cons,Bool.or_eq_false_iff,Bool.or_eq_true];refine⟨fun e=>by rw[hx.1 e.1,i1 e.2],by omega,fun e=>?_⟩;rcases e with e|e
  ·have:=hx.2 e;omega
  have:=i3 e;omega
theorem Mq(w:UInt8)(tx:List UInt8)(tg:Nat)(ks:List Vl):Az (.mk w tx tg ks)=H4 w tx tg (ks.map Az):=by rw[Az,Tf]
theorem Ja(p:Fd × Vl):(Az (Dk p)).length=(Ba p.1.tag).length+1+(Az p.2).length:=by simp[Dk,Az,D3,H4,Aw];omega
theorem S7{fs:List Fd}{n:Nat}{f:Fd}(h:Au fs n=some f):f∈fs/\f.tag=n:=⟨(At h).2,(At h).1⟩
def Md(S:List Ty)(K:Kd->Vl->Vl × Bool)(fs:List Fd)(p:Fd × Vl):Option (Fd × Vl):=match Au fs p.1.tag with
 |none=>none
 |some f=>if Az (K f.kind p.2).1=G9 S f then none else some (f,(K f.kind p.2).1)
theorem Ql4(S:List Ty)(K:Kd->Vl->Vl × Bool)(fs:List Fd)(p:Fd × Vl):(N6 S K fs (Dk p)).1=((Md S K fs p).map Dk).toList:=by
 unfold N6 Md;have e1:(Dk p).tag=p.1.tag:=rfl;have e2:Qhy (Dk p)=p.2:=rfl;rw[e1,e2];cases h:Au fs p.1.tag with
 |none=>rfl
 |some f=>
  simp only;split
  ·rfl
  simp[Dk,(At h).1]
theorem Vd(S:List Ty)(K:Kd->Vl->Vl × Bool)(fs:List Fd)(ps:List (Fd × Vl)):((ps.map Dk).flatMap fun y=>(N6 S K fs y).1)=(ps.filterMap (Md S K fs)).map Dk:=by
 induction ps with
 |nil=>rfl
 |cons p ps ih=>
  rw[ay,List.flatMap_cons,ih,Ql4,List.filterMap_cons];cases Md S K fs p<;>rfl
theorem Kb{S:List Ty}{K:Kd->Vl->Vl × Bool}{fs:List Fd}{p q:Fd × Vl}(h:Md S K fs p=some q):Au fs q.1.tag=some q.1/\q.1.tag=p.1.tag/\q.2=(K q.1.kind p.2).1/\Az q.2≠G9 S q.1:=by
 unfold Md at h;cases hf:Au fs p.1.tag with
 |none=>rw[hf]at h;cases h
 |some f=>
  rw[hf]at h;simp only at h;split at h
  ·cases h
  rename_i hn;injection h with h;subst h;have e:=(At hf).1;exact⟨by rw[e];exact hf,e,rfl,hn⟩
theorem Qlf{S:List Ty}{K:Kd->Vl->Vl × Bool}{fs:List Fd}{ps:List (Fd × Vl)}(h:∀p∈ps,∀f,Au fs p.1.tag=some f->LOk p.2 (K f.kind p.2)):
  (((ps.map Dk).any fun y=>(N6 S K fs y).2)=false->(ps.filterMap (Md S K fs)).map Dk=ps.map Dk)/\Dh ((ps.filterMap (Md S K fs)).map fun p=>Az (Dk p))<=Dh (ps.map fun p=>Az (Dk p)) /\
   (((ps.map Dk).any fun y=>(N6 S K fs y).2)=true->Dh ((ps.filterMap (Md S K fs)).map fun p=>Az (Dk p))<Dh (ps.map fun p=>Az (Dk p))/\2<=Dh (ps.map fun p=>Az (Dk p))):=by
 induction ps with
 |nil=>exact⟨fun _=>rfl,An _,fun h=>by simp at h⟩
 |cons p ps ih=>
  obtain⟨i1,i2,i3⟩:=ih fun q hq=>h q (by simp[hq]);have hx:=h p aK;have hlen:=Ja p;have eP:Md S K fs p=match Au fs p.1.tag with|none=>none|some f=>if Az (K f.kind p.2).1=G9 S f then none else some (f,(K f.kind p.2).1):=rfl
  have e1:N6 S K fs (Dk p)=match Au fs p.1.tag with|none=>([],true)|some f=>if Az (K f.kind p.2).1=G9 S f then([],true)else([.mk 61 [] p.1.tag [(K f.kind p.2).1]],(K f.kind p.2).2):=rfl
  simp only[ay,D7,List.any_cons,Bool.or_eq_false_iff,Bool.or_eq_true,List.filterMap_cons];cases hf:Au fs p.1.tag with
  |none=>
   simp only[hf]at eP e1;exact kW
  |some f=>
   have hk:=hx f hf;have hl:=hk.le;have et:=(At hf).1;simp only[hf]at eP e1;by_cases hc:Az (K f.kind p.2).1=G9 S f
   ·rw[if_pos hc]at eP e1;exact kW
   rw[if_neg hc]at eP e1;rw[eP,e1];simp only[ay,D7];have hl2:(Az (Dk (f,(K f.kind p.2).1))).length=(Ba p.1.tag).length+1+(Az (K f.kind p.2).1).length:=by rw[Ja];simp only;rw[et]
   refine⟨fun e=>?_,by omega,fun e=>⟨?_,by omega⟩⟩
   ·rw[i1 e.2,hk.1 e.1];congr 1
    show Vl.mk 61 [] f.tag [p.2]=.mk 61 [] p.1.tag [p.2];rw[et]
   rcases e with e|e
   ·have:=hk.2 e;omega
   have:=(i3 e).1;omega
theorem Ko{R:Cn->Cn->Prop}{a b:Kd}(h:Q8 R a b):Q8 R a.part b.part:=⟨by show a.signs.tail=b.signs.tail;rw[h.1],h.2⟩
theorem Te{S T:List Ty}{R:Cn->Cn->Prop}(hR:Zs S T R):∀(d:Nat) (a b:Kd) (v:Vl),Q8 R a b->Ha T d b v->Ha S d a (Dc S d a v).1/\LOk v (Dc S d a v):=by
 intro d;induction d with
 |zero=>intro a b v _ h;cases h
 |succ d ih=>
  intro a b v hk h;obtain⟨k1,k2,k3⟩:=hk;cases h with
  |@n _ _ m hs hb h=>
   rw[Dg,if_neg bN,if_pos dI];exact⟨.n (k1.trans hs) (k2.trans hb) h,LOk.same _⟩
  |@t _ _ s hs hb h=>
   rw[Dg,if_neg bN,if_pos dI];exact⟨.t (k1.trans hs) (k2.trans hb) h,LOk.same _⟩
  |@f _ _ x hs hb=>
   rw[Dg,if_neg bN,if_pos dI];exact⟨.f (k1.trans hs) (k2.trans hb),LOk.same _⟩
  |@lst _ _ r ks hs hl h=>
   rw[Dg,if_pos bN];have hi:=fun x hx=>ih a.part b.part x (Ko ⟨k1,k2,k3⟩) (h x hx);obtain⟨m1,m2,m3⟩:=Qk8 (K:=Dc S d a.part) (ks:=ks) fun x hx=>(hi x hx).2;refine⟨.lst (k1.trans hs) fN ?_,?_,?_⟩
   ·intro x hx;obtain⟨y,hy,rfl⟩:=ax.1 hx;exact(hi y hy).1
   ·intro e;exact congrArg (Vl.mk 91 [] 0) (m1 e)
   intro e;have:=m3 e;simp only[Mq]at this ⊢;simp[H4,Bw];simp at this;have h0:ks≠[]:=by rintro rfl;simp at e
   cases ks with
   |nil=>exact absurd rfl h0
   |cons x ks=>simp only[ay,D7]at this ⊢;omega
  |@non _ _ r hs=>
   rw[Dg,if_pos bN];exact⟨.non (k1.trans hs),LOk.same _⟩
  |@som _ _ r x hs h=>
   rw[Dg,if_pos bN];obtain⟨h1,h2⟩:=ih a.part b.part x (Ko ⟨k1,k2,k3⟩) h;refine⟨.som (k1.trans hs) h1,?_,?_⟩
   ·intro e;have:(Dc S d a.part x).2=false:=fh;exact congrArg (fun z=>Vl.mk 63 [] 0 [z]) (h2.1 this)
   intro e;have:(Dc S d a.part x).2=true:=fh;have:=h2.2 this;simp only[Mq];simpa [H4,Aw]using this
  |@enm _ _ u g hs hb ht h9 hf=>
   rw[Dg,if_neg bN,if_neg dZ];obtain⟨t,u2,e1,e2,e3,e4⟩:=hR _ _ (k3 (k2.trans hb));rw[ht]at e2;injection e2 with e2;subst e2;rw[e1];simp only;rw[if_neg (show ¬(69:UInt8)=85 by decide),if_neg (show ¬(69:UInt8)=82 by decide)];refine⟨?_,LOk.same _⟩;have:=e4 g (At hf).2;unfold Nv at this;cases h3:Au t.fields g.tag with
   |none=>rw[h3]at this;simp only at this;rw[h9]at this;exact absurd this aJ
   |some f=>
    have et:=(At h3).1;rw[<-et];exact .enm (k1.trans hs) (k2.trans hb) e1 (e3.trans h9) (by rw[et];exact h3)
  |@uni _ _ u g x hs hb ht h5 hf h=>
   rw[Dg,if_neg bN,if_neg dZ];obtain⟨t,u2,e1,e2,e3,e4⟩:=hR _ _ (k3 (k2.trans hb));rw[ht]at e2;injection e2 with e2;subst e2;rw[e1];simp only;rw[if_pos Ac];have:=e4 g (At hf).2;unfold Nv at this;cases h3:Au t.fields g.tag with
   |none=>rw[h3]at this;simp only at this;rw[h5]at this;exact absurd this aJ
   |some f=>
    rw[h3]at this;simp only at this;have hkr:=(this.resolve_left dH).1;obtain⟨h1,h2⟩:=ih f.kind g.kind x hkr h;have et:=(At h3).1;simp only;refine⟨?_,?_,?_⟩
    ·rw[<-et];exact .uni (k1.trans hs) (k2.trans hb) e1 (e3.trans h5) (by rw[et];exact h3) h1
    ·intro e;have:(Dc S d f.kind x).2=false:=fh;exact congrArg (fun z=>Vl.mk 85 [] g.tag [z]) (h2.1 this)
    intro e;have:(Dc S d f.kind x).2=true:=fh;have:=h2.2 this;simp only[Mq];simpa [H4,Aw]using this
  |@rcd _ _ u ps hs hb ht h82 hf h hn hp=>
   rw[Dg,if_neg bN,if_neg dZ];obtain⟨t,u2,e1,e2,e3,e4⟩:=hR _ _ (k3 (k2.trans hb));rw[ht]at e2;injection e2 with e2;subst e2;rw[e1];simp only;rw[if_neg (show ¬(82:UInt8)=85 by decide),if_pos Ac];have hkr:∀p∈ps,∀f,Au t.fields p.1.tag=some f->Ha S d f.kind (Dc S d f.kind p.2).1/\LOk p.2 (Dc S d f.kind p.2):=by
    intro p hp f h3;have:=e4 p.1 (At (hf p hp)).2;unfold Nv at this;rw[h3]at this;simp only at this;exact ih f.kind p.1.kind p.2 (this.resolve_left (by rw[h82];decide)).1 (h p hp)
   obtain⟨m1,m2,m3⟩:=Qlf (S:=S) (K:=Dc S d) (fs:=t.fields) (ps:=ps) fun p hp f h3=>(hkr p hp f h3).2;rw[Vd];refine⟨.rcd (k1.trans hs) (k2.trans hb) e1 (e3.trans h82) ?_ ?_ ?_ ?_,?_,?_⟩
   ·intro q hq;obtain⟨p,hp,hpq⟩:=List.mem_filterMap.1 hq;exact(Kb hpq).1
   ·intro q hq;obtain⟨p,hp,hpq⟩:=List.mem_filterMap.1 hq;obtain⟨i1,i2,i3,_⟩:=Kb hpq;rw[i3];exact(hkr p hp q.1 (by rw[<-i2];exact i1)).1
   ·intro q hq;obtain⟨p,hp,hpq⟩:=List.mem_filterMap.1 hq;exact(Kb hpq).2.2.2
   ·rw[List.pairwise_filterMap];exact hp.imp fun hlt x hx y hy=>by rw[(Kb hx).2.1,(Kb hy).2.1];exact hlt
   ·intro e;exact congrArg (Vl.mk 82 [] 0) (m1 e)
   intro e;obtain⟨m4,m5⟩:=m3 e;simp only;rw[Kl,Kl];simp only[List.length_cons,ah,Bw,List.length_nil];omega
end
end Go.Proofs.YtmmhmlmfhpfgbaaGreatDoor
