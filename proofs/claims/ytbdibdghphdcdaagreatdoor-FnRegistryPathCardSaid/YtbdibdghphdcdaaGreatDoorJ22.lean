/- Texts joined. Conditions: as each theorem names them. -/
import Derived.Test.YtbdibdghphdcdaaGreatDoorJ05
import Derived.Test.YtbdibdghphdcdaaGreatDoorJ21
set_option maxRecDepth 100000
set_option maxHeartbeats 32000000
set_option linter.unusedVariables false
set_option linter.unusedSimpArgs false
namespace Go.Proofs.YtbdibdghphdcdaaGreatDoor
open Go.RowKit Go.Proofs.Tryz
theorem Dv.grown{w w':World}{g p:Nat}{v:Value}{fs:List Fd}(h:Dv w v fs)(hR:Fg w g p)(hg:w.grownBy w' (some g)):Dv w' v fs:=by
 obtain⟨A,c,e,hl,hr⟩:=h;refine⟨A,c,e,hl,hr.grown hg (fun b off e1 hn=>?_)⟩;rintro rfl;obtain⟨b',off',e',_,c0,c1,_,_⟩:=Dv.at_ hr (i:=0) aH;rw[e1]at e';injection e' with e';injection e' with e2 e3;subst e2 e3;obtain⟨A2,n2,c2,l2,hh,_⟩:=hR;rcases(show off=0\/off=1\/2<=off by omega)with ho|ho|ho
 ·exact jX
 ·subst ho;simp[World.cell?,hh]at c1
 obtain⟨k,rfl⟩:∃k,off=k+2:=⟨off - 2,by omega⟩
 simp[World.cell?,hh]at c0
theorem Gl.grown{w w':World}{g p:Nat}{v:Value}{xs:List (Ty × Value)}(h:Gl w v xs)(hR:Fg w g p)(hg:w.grownBy w' (some g)):Gl w' v xs:=by
 obtain⟨A,c,e,hl,hr,hf⟩:=h;refine⟨A,c,e,hl,hr.grown hg (fun b off e1 hn=>?_),fun x hx=>(hf x hx).grown hR hg⟩;rintro rfl;obtain⟨b',off',e',_,c0,_,_⟩:=Gl.at_ hr (i:=0) aH;rw[e1]at e';injection e' with e';injection e' with e2 e3;subst e2 e3;obtain⟨A2,n2,c2,l2,hh,_⟩:=hR;rcases(show off=0\/off=1\/2<=off by omega)with ho|ho|ho
 ·exact jX
 ·exact jX
 obtain⟨k,rfl⟩:∃k,off=k+2:=⟨off - 2,by omega⟩
 simp[World.cell?,hh]at c0
section
attribute [local go_sem] Qo7 Qok Qoa Ql9 ByteArray.mk_append_mk
theorem Zr(c:UInt8)(p:List UInt8):∀(l:List (List UInt8)),Aw c (l++[p])=if l=[]then p else Aw c l++c::p
 |[]=>rfl
 |[q]=>rfl
 |q::r::l=>by
  have ih:=Zr c p (r::l);rw[if_neg aK]at ih ⊢;rw[av,De c q aK,ih,De c q aK];simp
theorem Sh(c:UInt8)(m:Nat):∀(l:List (List UInt8)),(∀p∈l,p.length<=m)->(Aw c l).length<=l.length*(m+1)
 |[],_=>by simp[Aw]
 |[q],h=>by have:=h q aK;simp[Aw];omega
 |q::r::l,h=>by
  have h1:=h q aK;have h2:=Sh c m (r::l) (fun p hp=>h p dH);rw[De c q aK,ah,List.length_cons,List.length_cons,Nat.add_mul];omega
theorem Qja(A:Option Addr)(c:Nat)(ps:List (List UInt8))(w:World)(hr:Cd w A ps.length (Cb ps))(hl:ps.length<=100)(hp:∀p∈ps,p.length<=10000):
  Calls prog 72 #[.slice A ps.length c] w fun e w'=>e=.returned (.string ⟨(Aw 44 ps).toArray⟩)/\w=w':=by
 have Hr:=Aa hr;have Hp:=Aa hp;clear hr hp;go_enter func72,ntmps72;go_wp2_with fail;go_loop [4,3] (fun i s=>∃k:Nat,i=.int .i64 k/\k<=ps.length/\s=.string ⟨(Aw 44 (ps.take k)).toArray⟩) (fun i _=>ps.length - (intOf i).toNat)
 case atStart=>exact⟨0,rfl,ag _,rfl⟩
 case round=>
  obtain⟨k,rfl,hk,rfl⟩:=hrel;have k1:(0:Int)<=(k:Int):=aH;have hjl:=Sh 44 10000 (ps.take k) (fun p hp=>Hp.o p (List.mem_of_mem_take hp));rw[List.length_take,Nat.min_eq_left hk]at hjl;by_cases hlt:k<ps.length
  ·have k2:(k:Int)<(ps.length:Int):=aH;obtain⟨b,off,rfl,hb,hc⟩:=Hr.o.at_ hlt;have c0:w.cell? ⟨b,off+k,none⟩=some (.string ⟨ps[k].toArray⟩):=by rw[hc];simp[Cb]
   have Hsn:=@Aa (Aw 44 (ps.take (k+1))=if ps.take k=[]then ps[k]else Aw 44 (ps.take k)++44::ps[k]) (by rw[Cn ps k hlt];exact Zr 44 ps[k] (ps.take k));have hpl:=Hp.o _ (ae hlt);have He:Hid (ps.take k=[]↔k=0):=by
    constructor
    ·intro h;have:=congrArg List.length h;rw[List.length_take,Nat.min_eq_left hk]at this;simpa using this
    rintro rfl;rfl
   generalize ps[k]=p at c0 Hsn hpl;clear hc;by_cases h0:k=0
   ·have h0i:¬(0:Int)<(k:Int):=aH;have Hs2:=Aa (Hsn.o.trans (if_pos (He.o.2 h0)));have hj0:Aw 44 (ps.take k)=[]:=by rw[He.o.2 h0];rfl
    rw[hj0];clear h0 hjl hj0;go_wp2_with fail;go_round
    case rel=>exact⟨k+1,by go_num,by omega,by rw[Hs2.o]⟩
    case measure=>simp[intOf];omega
   have h0i:(0:Int)<(k:Int):=aH;have Hs2:=Aa (Hsn.o.trans (if_neg (fun h=>h0 (He.o.1 h))));generalize Aw 44 (ps.take k)=js at *;clear h0;go_wp2_with fail;go_round
   case rel=>exact⟨k+1,by go_num,by omega,by rw[Hs2.o]⟩
   case measure=>simp[intOf];omega
  ·obtain rfl:k=ps.length:=aH;have Hfin:Hid (ps.take ps.length=ps):=List.take_length;go_wp2_with fail;go_ret;exact⟨by first|rfl|rw[Hfin.o],rfl⟩
def H9(st:UInt8)(f:Fd):Prop:=f.tag<=200/\f.name.length<=100/\(Be f.kind).length<=100/\f.given.length<=100/\(st=69->f.given=[])
theorem Qc2{st:UInt8}{f:Fd}(h:H9 st f):(Me st f).length<=400:=by
 obtain⟨h1,h2,h3,h4,_⟩:=h;have hd:=Dk 2 f.tag bY;unfold Me Kf;split
 ·simp;omega
 split
 ·simp;omega
 simp;omega
theorem Qgo(t:Ty)(fv:Value)(w:World)(hf:Dv w fv t.fields)(h8:t.fields.length<=20)(hnm:t.name.length<=100)(hs:∀f∈t.fields,H9 t.sort f):
  Calls prog 40 #[Mj t fv] w fun e w'=>e=.returned (.string ⟨(Ye t++[10]).toArray⟩)/\Below w w w':=by
 obtain⟨A,c,rfl,_,hrow⟩:=hf;have Hrow:=Aa hrow;have Hs:=Aa hs;have HF:Hid (Ye t++[10]=t.sort::(t.name++61::(Aw 44 (t.fields.map (Me t.sort))++[10]))):=by unfold Ye Hid;simp
 have hcl:=t.sort.toNat_lt;unfold Mj;clear hrow hs;go_enter func40,ntmps40;go_wp2_with fail;obtain⟨w2,hw2⟩:∃w2,w2=(w.alloc (.cells #[.int .u8 (t.sort.toNat:Int),t.name,.slice A t.fields.length c] 86)).alloc (.cells #[] 9):=⟨_,rfl⟩
 rw[<-hw2];have T0:=@Aa (w2.cell? (w,0)=some (.int .u8 (t.sort.toNat:Int))) gk;have T1:=@Aa (w2.cell? (w,1)=t.name) gk;have T2:=@Aa (w2.cell? (w,2)=some (.slice A t.fields.length c)) gk;have Hb2:=@Aa (Below w w w2) (by rw[hw2];exact((Ap _ _).alloc (An _) _).alloc aK _);have hz2:w2.heap.size=w.heap.size+2:=gA;have Hown2:=@Aa (w2.ownsRow (w.heap.size+1) 9 1 (.slice (w,1,0) 0 0) 0 []) ⟨rfl,.inr ⟨w.heap.size+1,0,#[],rfl,An _,by rw[hw2];have:=heap_alloc_new (w.alloc (.cells #[.int .u8 (t.sort.toNat:Int),t.name,.slice A t.fields.length c] 86)) (.cells #[] 9);simpa using this,An _,ag _,rfl,rfl⟩⟩;clear hw2;go_loopw [4,3] (fun i lv wr=>∃k:Nat,i=.int .i64 k/\k<=t.fields.length/\Hid (wr.ownsRow (w.heap.size+1) 9 1 lv k (Cb ((t.fields.take k).map (Me t.sort))))/\Hid (Below (w.heap.size+1) w2 wr)) (fun i _ _=>t.fields.length - (intOf i).toNat)
 case atStart=>exact⟨0,rfl,ag _,Hown2.o,Ap _ _⟩
 case round=>
  obtain⟨k,rfl,hk,hown,hbr⟩:=hrel;have k1:(0:Int)<=(k:Int):=aH;have hzr:w2.heap.size<=wr.heap.size:=hbr.o.size;have t0:wr.cell? (w,0)=some (.int .u8 (t.sort.toNat:Int)):=(hbr.o.cell (p:=⟨w.heap.size,0,none⟩) (Nat.lt_succ_self _)).trans T0.o;have t1:wr.cell? (w,1)=t.name:=(hbr.o.cell (p:=⟨w.heap.size,1,none⟩) (Nat.lt_succ_self _)).trans T1.o;have t2:wr.cell? (w,2)=some (.slice A t.fields.length c):=(hbr.o.cell (p:=⟨w.heap.size,2,none⟩) (Nat.lt_succ_self _)).trans T2.o;have Hbw:=@Aa (Below w w wr) (Hb2.o.trans (hbr.o.mono aH));obtain⟨A3,n3,c3,hlv⟩:=Ek hown.o;subst hlv;by_cases hlt:k<t.fields.length
  ·have k2:(k:Int)<(t.fields.length:Int):=aH;obtain⟨b,off,rfl,hbl,g0,g1,g2,g3⟩:=Dv.at_ (Hrow.o.below Hbw.o) hlt;have Hts:=Aa (Cn t.fields k hlt);have Hfs:=Aa (Hs.o _ (ae hlt));generalize t.fields[k]=f at g0 g1 g2 g3 Hts Hfs;obtain⟨f1,f2,f3,f4,f5⟩:=Hfs.o;have Hf5:=Aa f5;have hdl:=Dk 2 f.tag bY;have Hd:=Aa (fun W=>Gr f.tag f.tag W (An _) aH);have hbn:¬(b=wr.heap.size):=aH;clear f5;go_wp2_with fail;obtain⟨W5,hW5⟩:∃W5,W5=wr.alloc (.cells #[(f.tag:Int),f.name,.string ⟨(Be f.kind).toArray⟩,f.given] 88):=⟨_,rfl⟩
   rw[<-hW5];have hb5:Below wr wr W5:=dh;have F0:=@Aa (W5.cell? (wr,0)=(f.tag:Int)) d7;have F1:=@Aa (W5.cell? (wr,1)=f.name) d7;have F2:=@Aa (W5.cell? (wr,2)=some (.string ⟨(Be f.kind).toArray⟩)) d7;have F3:=@Aa (W5.cell? (wr,3)=f.given) d7;have L5:=@Aa (wr.heap.size<W5.heap.size) d7;have Hb5:=@Aa (Below (w.heap.size+1) w2 W5) (hbr.o.trans (hb5.mono aH));have Hown5:=Aa (Db hown.o hb5);have h5w:w.heap.size+1<wr.heap.size:=aH;generalize wr.heap.size=B5 at *;clear hW5 hb5 g0 g1 g2 g3 t0 t1 t2;refine Jo [20,21,22,23,24,25,26,6]
    (fun ix v W=>match ix with|0=>v=B5|1=>v=(f.tag:Int)|2=>v=(Bb f.tag:List UInt8)|3=>v=(Bb f.tag++[58]:List UInt8)|4=>v=(B5,1)|5=>v=(f.name:List UInt8)|6=>v=(Bb f.tag++58::f.name:List UInt8)|7=>v=(Bb f.tag++58::f.name:List UInt8)|_=>True)
    (fun L U W=>Below W5 W5 W) ((Ap _ _).drew) ?_ ?_
   ·repeat (first|exact Ak.nil|(refine Ak.cons ?_ ?_;rotate_left))
    all_goals
     rintro L U W hL hpre HR Hdep K hK;have hB:=HR.o;have a0:W.cell? (B5,0)=(f.tag:Int):=(hB.cell (p:=⟨B5,0,none⟩) L5.o).trans F0.o;have a1:W.cell? (B5,1)=f.name:=(hB.cell (p:=⟨B5,1,none⟩) L5.o).trans F1.o;first|(simp[Region.binds]at hpre;done)|simp[Region.binds]at hpre|clear hpre
    iterate 2
     ·exact ip
    ·go_simp;refine(Hd.o W).mono ?_;rintro e w5 ⟨rfl,hb5⟩;exact lx
    ·exact iv
    iterate 2
     ·exact ip
    ·exact iv
    ·exact ip
   rintro L U W hL hφ hR;have e7:U 7=(Bb f.tag++58::f.name:List UInt8):=hφ 7 aJ;simp only[e7];clear hφ;have Hb6:=Aa (Hb5.o.trans (hR.mono (by have:=L5.o;omega)));have Hown6:=Aa (Db Hown5.o hR);have t0:W.cell? (w,0)=some (.int .u8 (t.sort.toNat:Int)):=(Hb6.o.cell (p:=⟨w.heap.size,0,none⟩) (Nat.lt_succ_self _)).trans T0.o;have a2:W.cell? (B5,2)=some (.string ⟨(Be f.kind).toArray⟩):=(hR.cell (p:=⟨B5,2,none⟩) L5.o).trans F2.o;have a3:W.cell? (B5,3)=f.given:=(hR.cell (p:=⟨B5,3,none⟩) L5.o).trans F3.o;have hzw:w.heap.size+1<=W.heap.size:=by have:=hR.size;have:=L5.o;omega
   clear hL hR;by_cases h69:t.sort=69
   ·have t69:((t.sort.toNat:Int) != 69)=false:=cJ;have hgv:=Hf5.o h69;rw[hgv]at a3;have Hrest2:=@Aa (Me t.sort f=Bb f.tag++58::f.name) (by unfold Me Kf;rw[if_pos h69];simp);clear h69 hgv;go_wp2_with (at_builtin;refine Fk _ rfl _ _ 64 rfl (w.heap.size+1) 9 a6 16 underlying64 Qe rfl W (Bb f.tag++58::f.name:List UInt8) rfl rfl (.slice A3 n3 c3) k (Cb ((t.fields.take k).map (Me t.sort))) rfl rfl Hown6.o aU aH aH ?_;intro v7 w7 hown7 hg7 _;have Hown7:=Aa hown7;have Hg7:=Aa hg7;clear hown7 hg7)
    go_roundw
    case rel=>
     refine⟨k+1,by go_num,by omega,?_,Hb6.o.grown Hg7.o hzw (fun j hj=>(Hown6.o.lt j hj).1)⟩;exact lD
    case measure=>simp[intOf];omega
   have t69:((t.sort.toNat:Int) != 69)=true:=cI;by_cases hg:f.given=[]
   ·rw[hg]at a3;have Hrest2:=@Aa (Me t.sort f=Bb f.tag++58::(f.name++58::Be f.kind)) (by unfold Me Kf;rw[if_neg h69,if_pos hg];simp);clear h69 hg;go_wp2_with (at_builtin;refine Fk _ rfl _ _ 64 rfl (w.heap.size+1) 9 a6 16 underlying64 Qe rfl W (.string ⟨(Bb f.tag++58::(f.name++58::Be f.kind):List UInt8).toArray⟩) rfl rfl (.slice A3 n3 c3) k (Cb ((t.fields.take k).map (Me t.sort))) rfl rfl Hown6.o aU aH aH ?_;intro v7 w7 hown7 hg7 _;have Hown7:=Aa hown7;have Hg7:=Aa hg7;clear hown7 hg7)
    go_roundw
    case rel=>
     refine⟨k+1,by go_num,by omega,?_,Hb6.o.grown Hg7.o hzw (fun j hj=>(Hown6.o.lt j hj).1)⟩;exact lD
    case measure=>simp[intOf];omega
   have s1:f.given.isEmpty=false:=by simpa using hg
   have s2:(!f.given.isEmpty)=true:=by simp[s1]
   have Hrest2:=@Aa (Me t.sort f=Bb f.tag++58::(f.name++58::(Be f.kind++61::f.given))) (by unfold Me Kf;rw[if_neg h69,if_neg hg]);clear h69 hg;go_wp2_with (at_builtin;refine Fk _ rfl _ _ 64 rfl (w.heap.size+1) 9 a6 16 underlying64 Qe rfl W (.string ⟨(Bb f.tag++58::(f.name++58::(Be f.kind++61::f.given)):List UInt8).toArray⟩) rfl rfl (.slice A3 n3 c3) k (Cb ((t.fields.take k).map (Me t.sort))) rfl rfl Hown6.o aU aH aH ?_;intro v7 w7 hown7 hg7 _;have Hown7:=Aa hown7;have Hg7:=Aa hg7;clear hown7 hg7)
   go_roundw
   case rel=>
    refine⟨k+1,by go_num,by omega,?_,Hb6.o.grown Hg7.o hzw (fun j hj=>(Hown6.o.lt j hj).1)⟩;exact lD
   case measure=>simp[intOf];omega
  ·obtain rfl:k=t.fields.length:=aH;have Hjl:=Aa (Sh 44 400 (t.fields.map (Me t.sort)) (fun p hp=>by obtain⟨f,hf,rfl⟩:=ax.1 hp;exact Qc2 (Hs.o f hf)));have hjl:=Hjl.o;rw[List.length_map]at hjl;have Hw:=Aa hown.o;rw[List.take_length]at Hw;obtain⟨A9,c9,e9,hr9⟩:=Cd.own Hw.o;injection e9 with e9 e10 e11;subst e9 e10 e11
   have Hjoin:=Aa (fun W (h:Below wr wr W)=>show Calls prog 72 #[.slice A3 t.fields.length c3] W fun e w'=>e=.returned (.string ⟨(Aw 44 (t.fields.map (Me t.sort))).toArray⟩)/\W=w' from by
    have:=Qja A3 c3 (t.fields.map (Me t.sort)) W (by simpa using hr9.below h) (by rw[List.length_map];omega) (fun p hp=>by obtain⟨f,hf,rfl⟩:=ax.1 hp;have:=Qc2 (Hs.o f hf);omega);rwa [List.length_map]at this)
   have W0e:∃W0,W0=wr:=⟨_,rfl⟩
   obtain⟨W0,hW0⟩:=W0e;have Lw:=Aa (show w.heap.size<wr.heap.size by omega);have T0':=Aa t0;have T1':=Aa t1;clear T0 T1;have T0:=T0';have T1:=T1';generalize Aw 44 (t.fields.map (Me t.sort))=js at *;clear t0 t1 hr9 Hw;go_wp2_with fail;subst hW0;refine Jo [47,48,49,50,51,52,53,54,55,56,57,58,2]
    (fun ix v W=>match ix with|0=>v=w.heap.size|1=>v=.int .u8 (t.sort.toNat:Int)|2=>∃g,v=.slice (some ⟨g,0,none⟩) 1 1|3=>v=([t.sort]:List UInt8)|4=>v=(w,1)|5=>v=(t.name:List UInt8)|6=>v=(t.sort::t.name:List UInt8)|7=>v=.string ⟨(t.sort::(t.name++[61]):List UInt8).toArray⟩|8=>v=.slice A3 t.fields.length c3|9=>v=(js:List UInt8)|10=>v=.string ⟨(t.sort::(t.name++61::js):List UInt8).toArray⟩|11=>v=.string ⟨(t.sort::(t.name++61::(js++[10])):List UInt8).toArray⟩|12=>v=.string ⟨(t.sort::(t.name++61::(js++[10])):List UInt8).toArray⟩|_=>True)
    (fun L U W=>Below W0 W0 W/\(L 2=true->∃g,U 2=.slice (some ⟨g,0,none⟩) 1 1/\g<W.heap.size/\W.cell? ⟨g,0,none⟩=some (.int .u8 (t.sort.toNat:Int)))) (⟨(Ap _ _).drew,fun h=>Bool.noConfusion h⟩) ?_ ?_
   ·repeat (first|exact Ak.nil|(refine Ak.cons ?_ ?_;rotate_left))
    all_goals
     rintro L U W hL hpre HR Hdep K hK;obtain⟨hB,R2⟩:=HR.o;have a0:W.cell? (w,0)=some (.int .u8 (t.sort.toNat:Int)):=(hB.cell (p:=⟨w.heap.size,0,none⟩) Lw.o).trans T0.o;have a1:W.cell? (w,1)=t.name:=(hB.cell (p:=⟨w.heap.size,1,none⟩) Lw.o).trans T1.o;first|(simp[Region.binds]at hpre;done)|simp[Region.binds]at hpre|clear hpre
    iterate 2
     ·exact ip
    ·go_simp;exact hK _ _ _ ⟨_,rfl⟩ Ac ⟨hB.alloc hB.size _,fun _=>⟨W.heap.size,rfl,by simp,by simp⟩⟩ aI
    ·have l2:L 2=true:=by first|exact hpre.1|exact hpre.2.1
     obtain⟨g,u2,hg,hc⟩:=R2 l2;have hcv:=Mo W g 1 t.sort hc;go_simp;exact hK _ _ _ rfl Ac HR.o (by simp[Act.put,hpre,u2])
    iterate 2
     ·exact ip
    ·exact iv
    ·exact iv
    ·exact ip
    ·go_simp;refine(Hjoin.o W hB).mono ?_;rintro e w5 ⟨rfl,rfl⟩;exact kA
    ·exact iv
    ·exact iv
    ·exact ip
   rintro L U W hL hφ hR;have e12:U 12=.string ⟨(t.sort::(t.name++61::(js++[10])):List UInt8).toArray⟩:=hφ 12 aJ;simp only[e12];clear hφ;have Hb9:=Aa (Hbw.o.trans (hR.1.mono Hbw.o.size));clear hL hR;go_wp2_with fail;go_ret;exact⟨by rw[HF.o];rfl,Hb9.o⟩
end
def Q9(p:Df):List Value:=[p.1,p.2]
theorem Qic(p:Df):(Q9 p).length=2:=rfl
theorem Tryz.infoPair:(prog.info? 176).map (fun i=>(i.zero,i.size,i.bytes))=some (some (.agg #[a6,a6]),2,32):=aL
def Gw(w0:World)(v1 v2:Value)(w:World)(m:List Df)(mv:Value):Prop:=
 Below w0 w0 w/\w0.heap.size+1<=w.heap.size/\w.cell? (w0,0)=some v1/\w.cell? (w0,1)=some v2/\w.cell? (w0,2)=some mv/\w.there w0 0 3 /\
  w.ownsRow (w0.heap.size+1) 176 2 mv m.length (m.flatMap Q9)
structure E9(ab:Nat)(mv:Value)(w w':World)(mv':Value):Prop where
 size:w.heap.size<=w'.heap.size
 block:∀b,b<w.heap.size->b≠ab->some b≠mv.ownBlock->w'.heap[b]?=w.heap[b]?
 own:mv'.ownBlock=mv.ownBlock\/∃k,mv'.ownBlock=some k/\w.heap.size<=k
theorem E9.refl(ab:Nat)(mv:Value)(w:World):E9 ab mv w w mv:=⟨An _,fun _ _ _ _=>rfl,.inl rfl⟩
theorem E9.trans{ab:Nat}{v1 v2 v3:Value}{a b c:World}(h:E9 ab v1 a b v2)(k:E9 ab v2 b c v3):E9 ab v1 a c v3:=by
 refine⟨ad h.size k.size,fun x hx h1 h2=>(k.block x (ac hx h.size) h1 ?_).trans (h.block x hx h1 h2),?_⟩
 ·rcases h.own with e|⟨y,e,hy⟩
  ·rw[e];exact h2
  rw[e];intro he;injection he with he;omega
 rcases k.own with e|⟨y,e,hy⟩
 ·rw[e];exact h.own
 exact .inr ⟨y,e,ad h.size hy⟩
theorem E9.of_below{ab:Nat}{mv:Value}{w w':World}(h:Below w w w'):E9 ab mv w w' mv:=⟨h.size,fun b hb _ _=>h.block b hb,.inl rfl⟩
theorem E9.cell{ab:Nat}{mv mv':Value}{w w':World}(h:E9 ab mv w w' mv'){b o:Nat}(hb:b<w.heap.size)(h1:b≠ab)(h2:some b≠mv.ownBlock):w'.cell? ⟨b,o,none⟩=w.cell? ⟨b,o,none⟩:=World.cell?_of_block (h.block b hb h1 h2)
theorem E9.range{ab:Nat}{mv mv':Value}{w w':World}(h:E9 ab mv w w' mv'){b o:Nat}{cs:List Value}(hr:w.rangeAt b o cs)(hb:b<w.heap.size)(h1:b≠ab)(h2:some b≠mv.ownBlock):w'.rangeAt b o cs:=fun j v hv=>(h.cell hb h1 h2).trans (hr j v hv)
theorem Gw.size{w0 w:World}{v1 v2 mv:Value}{m:List Df}(h:Gw w0 v1 v2 w m mv):w0.heap.size<w.heap.size:=h.2.1
theorem Gw.far{w0 w:World}{v1 v2 mv:Value}{m:List Df}(h:Gw w0 v1 v2 w m mv):∀b,w.heap.size<=b->some b≠mv.ownBlock:=fun b hb e=>by
 have:=(h.2.2.2.2.2.2.lt b e.symm).2;omega
theorem Gw.below{w0 w w':World}{v1 v2 mv:Value}{m:List Df}(h:Gw w0 v1 v2 w m mv)(hb:Below w w w'):Gw w0 v1 v2 w' m mv:=by
 obtain⟨h1,h2,h3,h4,h5,h6,h7⟩:=h
 exact⟨h1.trans (hb.mono aH),ad h2 hb.size,(hb.cell (p:=⟨w0.heap.size,0,none⟩) (show w0.heap.size<_ by omega)).trans h3,(hb.cell (p:=⟨w0.heap.size,1,none⟩) (show w0.heap.size<_ by omega)).trans h4,
  (hb.cell (p:=⟨w0.heap.size,2,none⟩) (show w0.heap.size<_ by omega)).trans h5,Aj h6 aH hb,Db h7 hb⟩
theorem Gw.push{w0 w w5:World}{v1 v2 mv mv5:Value}{m:List Df}{p:Df}(h:Gw w0 v1 v2 w m mv)(hown:w5.ownsRow (w0.heap.size+1) 176 2 mv5 (m.length+1) (m.flatMap Q9++Q9 p))(hg:w.grownBy w5 mv.ownBlock)
  (hwh:mv5.ownBlock=mv.ownBlock\/∃k,mv5.ownBlock=some k/\w.heap.size<=k):
  Gw w0 v1 v2 (w5.setCell ⟨w0.heap.size,2,none⟩ mv5) (m++[p]) mv5/\E9 w0.heap.size mv w (w5.setCell ⟨w0.heap.size,2,none⟩ mv5) mv5:=by
 obtain⟨h1,h2,h3,h4,h5,h6,h7⟩:=h;have hb:Below (w0.heap.size+1) w w5:=(Ap _ _).grown hg h2 (fun k hk=>(h7.lt k hk).1);have h6':w5.there w0 0 3:=Aj h6 (show w0.heap.size<w0.heap.size+1 by omega) hb;have hc:∀j,j≠2->(w5.setCell ⟨w0.heap.size,2,none⟩ mv5).cell? ⟨w0.heap.size,j,none⟩=w.cell? ⟨w0.heap.size,j,none⟩:=fun j hj=>by
  rw[World.cell?_setCell_other _ _ _ _ (by intro e;injection e with e1 e2;omega)];exact hb.cell (p:=⟨w0.heap.size,j,none⟩) (show w0.heap.size<_ by omega)
 refine⟨⟨(h1.trans (hb.mono aH)).setCell (An _) _,by simp;exact ad h2 hb.size,(hc 0 aJ).trans h3,(hc 1 aJ).trans h4,?_,ai h6' w0.heap.size 2 [_],?_⟩,?_⟩
 ·have:=aa w5 w0 2 [mv5] (M5 h6' 2 1 aJ aJ);exact(by simpa using Ab this 0 rfl:(w5.setCells w0 2 [mv5]).cell? (w0,2)=some mv5)
 ·rw[ah,List.flatMap_append];refine World.ownsRow.kept (show w5.ownsRow (w0.heap.size+1) 176 2 mv5 (m.length+[p].length) (m.flatMap Q9++[p].flatMap Q9)from by simpa using hown) (Jj w5 _ _) (.inr (fun e=>absurd (show w0.heap.size+1<=w0.heap.size from(hown.lt _ e).1) aH))
 refine⟨by simp;exact hg.size,fun b hb h1 h2=>?_,hwh⟩;rw[Below.heap_setCell _ _ _ _ h1];exact hg.block b hb h2
def Qam(w0:World)(v1 v2:Value)(r:Bool × List Df)(w:World)(mv:Value)(e:Ending)(w':World):Prop:=e=.returned (.bool r.1)/\∃mv',Gw w0 v1 v2 w' r.2 mv'/\E9 w0.heap.size mv w w' mv'
section
attribute [local go_sem] Qo7 Qok Qoa Ql9 ByteArray.mk_append_mk
theorem Yx{k:Kd}(h:Cq k):Cq k.core/\Be k.core=B6 k:=by
 refine⟨⟨by simp[Kd.core],h.2.1,?_⟩,by simp[Be,Kd.core];rfl⟩;have:=h.2.2;unfold Be Kd.core B6 at *;simp at *;omega
theorem Qif(xs:List (Ty × Value))(k:Kd):J6 xs k.core=if k.base=[64]then D8 xs k.name else none:=by
 unfold J6 Kd.core;simp
theorem Qez{w:World}{v:Value}{xs:List (Ty × Value)}(h:Gl w v xs){o:Option (Ty × Value)}(ho:∀x,o=some x->x∈xs):
  ∃(s:Int) (nm:ByteArray) (A:Option Addr) (n c:Nat),Xp o=.tuple #[.agg #[.int .u8 s,.string nm,.slice A n c],.bool o.isSome]/\∀x,o=some x->Mj x.1 x.2=.agg #[.int .u8 s,.string nm,.slice A n c]/\nm=⟨x.1.name.toArray⟩:=by
 obtain⟨_,_,_,_,_,hf⟩:=h;cases o with
 |none=>exact⟨0,⟨#[]⟩,none,0,0,rfl,fun x h=>by cases h⟩
 |some x=>
  obtain⟨A,c,e,_,_⟩:=hf x (ho x rfl);refine⟨(x.1.sort.toNat:Int),⟨x.1.name.toArray⟩,A,x.1.fields.length,c,?_,fun y hy=>?_⟩
  ·show Value.tuple #[.agg #[_,_,x.2],.bool true]=_;rw[e];rfl
  injection hy with hy;subst hy;unfold Mj;rw[e];exact kj
theorem Qi0{S T:List Ty}{n:Nat}{a b:Kd}{m:List Df}(hs:a.signs=b.signs)(ha:Cq a)(hb:Cq b)(h:¬(a.base=[64]/\b.base=[64])):
  Kg S T (n+1) a b m=((B6 a == B6 b) && (!decide (a.base=[64]) && !decide (b.base=[64])),m):=by
 unfold Kg;by_cases h1:a.base=[64]
 ·have h2:b.base≠[64]:=fun h2=>h ⟨h1,h2⟩;rw[if_pos (.inr (by rw[h1];exact fun e=>h2 e.symm))];simp[h1]
 by_cases h2:b.base=[64]
 ·rw[if_pos (.inr (by rw[h2];exact h1))];simp[h2]
 have e1:B6 a=a.base:=if_neg h1;have e2:B6 b=b.base:=if_neg h2;by_cases h3:a.base=b.base
 ·rw[if_neg (by simp[hs,h3]),if_pos h1,e1,e2,h3];simp[h2]
 rw[if_pos (.inr h3),e1,e2];simp[h3]
theorem Qgr(w0:World)(v1 v2:Value)(xs ys:List (Ty × Value))(hx:Gl w0 v1 xs)(hy:Gl w0 v2 ys)(n:Nat)(a b:Kd)(m:List Df)(w:World)(mv:Value)
  (ha:Cq a) (hb:Cq b) (hra:Cc (Af xs) a) (hrb:Cc (Af ys) b) (hm:m.length<=64) (hst:Gw w0 v1 v2 w m mv)
  (ih:∀t fv u gv W mv',(t,fv)∈xs->(u,gv)∈ys->Gw w0 v1 v2 W (m++[(a.name,b.name)]) mv'->Bt (Af xs) a.name=some t->Bt (Af ys) b.name=some u->(a.name,b.name)∉m ->
   Calls prog 109 #[w0.heap.size,Mj t fv,Mj u gv] W (Qam w0 v1 v2 (evT (Af xs) (Af ys) (Kg (Af xs) (Af ys) n) t u (m++[(a.name,b.name)])) W mv')):
  Calls prog 80 #[w0.heap.size,.string ⟨(Be a).toArray⟩,.string ⟨(Be b).toArray⟩] w (Qam w0 v1 v2 (Kg (Af xs) (Af ys) (n+1) a b m) w mv):=by
 have HF:=Aa (show Kg (Af xs) (Af ys) (n+1) a b m=(if a.signs≠b.signs\/a.base≠b.base then(false,m)
  else if a.base≠[64]then(true,m)
  else match Bt (Af xs) a.name,Bt (Af ys) b.name with
   |some t,some u=>if (a.name,b.name)∈m then(true,m)else evT (Af xs) (Af ys) (Kg (Af xs) (Af ys) n) t u (m++[(a.name,b.name)])
   |_,_=>(false,m))from by rw[Kg]<;>rfl)
 have Hca:=Aa (fun W=>N3 a ha W);have Hcb:=Aa (fun W=>N3 b hb W);have Hst:=Aa hst;have Hx:=Aa hx;have Hy:=Aa hy;have Ih:=Aa ih;obtain⟨A1,c1,rfl,hxl,_⟩:=hx;obtain⟨A2,c2,rfl,hyl,_⟩:=hy;obtain⟨A3,n3,c3,rfl⟩:=Ek hst.2.2.2.2.2.2;have hla:=ha.2.2;have hlb:=hb.2.2;have ea:Be a=a.signs++B6 a:=rfl;have eb:Be b=b.signs++B6 b:=rfl;rw[ea]at Hca hla ⊢;rw[eb]at Hcb hlb ⊢;simp only[ah]at hla hlb;have hw1:IntKind.i64.wrap (a.signs.length:Int)=a.signs.length:=IntWalk.i64_in _ ⟨by omega,by omega⟩;have hw2:IntKind.i64.wrap (b.signs.length:Int)=b.signs.length:=IntWalk.i64_in _ ⟨by omega,by omega⟩;clear hst ih ea eb;go_enter func80,ntmps80;go_wp2_with fail;refine(Hca.o _).mono ?_;rintro e w1 ⟨rfl,rfl⟩;go_wp2_with fail;refine(Hcb.o _).mono ?_;rintro e w1 ⟨rfl,rfl⟩;go_wp2_with fail;obtain⟨sb,hsb⟩:∃sb,(!(a.signs == b.signs))=sb:=⟨_,rfl⟩
 refine Jo [19,20,21,22,23,24,25,26,27,28,29,30,31,32,33]
  (fun i v W=>match i with|0=>v=.string ⟨(a.signs++B6 a).toArray⟩|1=>v=.string ⟨(a.signs++B6 a).toArray⟩|2=>v=.int .i64 ((a.signs.length:Int)+((B6 a).length:Int))|3=>v=.string ⟨(B6 a).toArray⟩|4=>v=.int .i64 ((B6 a).length:Int)|5=>v=(a.signs.length:Int)|6=>v=a.signs|7=>v=.string ⟨(b.signs++B6 b).toArray⟩|8=>v=.string ⟨(b.signs++B6 b).toArray⟩|9=>v=.int .i64 ((b.signs.length:Int)+((B6 b).length:Int))|10=>v=.string ⟨(B6 b).toArray⟩|11=>v=.int .i64 ((B6 b).length:Int)|12=>v=(b.signs.length:Int)|13=>v=b.signs|14=>v=.bool sb|_=>True)
  (fun L U W=>∃q,W=w.drewN q) (⟨1,rfl⟩) ?_ ?_
 ·repeat (first|exact Ak.nil|(refine Ak.cons ?_ ?_;rotate_left))
  all_goals
   rintro L U W hL hpre HR Hdep K hK;obtain⟨q,rfl⟩:=HR.o;first|(simp[Region.binds]at hpre;done)|simp[Region.binds]at hpre|clear hpre
  iterate 6
   ·exact j4
  ·exact j8
  iterate 6
   ·exact j4
  ·exact j8
  ·exact j4
 rintro L U W hL hφ hR;have e14:U 14=.bool sb:=hφ 14 aJ;simp only[e14];clear hφ;obtain⟨q,rfl⟩:=hR;have Hstq:=Aa (Hst.o.below (below_drewN (Ap _ _) q));have Hkq:=Aa (E9.of_below (ab:=w0.heap.size) (mv:=.slice A3 n3 c3) (below_drewN (Ap w.heap.size w) q));obtain⟨_,hsz,y0,y1,y2,_,_⟩:=Hstq.o;clear hL;have Hsb:=Aa hsb;clear hsb;cases sb with
 |true=>
  have HF1:=Aa (HF.o.trans (if_pos (.inl (by have:=Hsb.o;simpa using this))));go_wp2_with fail;go_ret;rw[HF1.o];exact⟨rfl,_,Hstq.o,Hkq.o⟩
 |false=>
  have hsg:a.signs=b.signs:=by have:=Hsb.o;simpa using this
  have Hsg:=Aa hsg;have Hra:=Aa (fun W (h:Gl W (.slice A1 xs.length c1) xs)=>(Yx ha).2 ▸ Fb _ xs a.core W h (Yx ha).1);have Hrb:=Aa (fun W (h:Gl W (.slice A2 ys.length c2) ys)=>(Yx hb).2 ▸ Fb _ ys b.core W h (Yx hb).1);rw[Qif]at Hra Hrb;clear hsg;go_wp2_with fail
  have Hoa:=Aa (show ((if a.base=[64]then D8 xs a.name else none).isSome=decide (a.base=[64]))/\∀x,(if a.base=[64]then D8 xs a.name else none)=some x->a.base=[64]/\D8 xs a.name=some x from by
   by_cases h:a.base=[64]
   ·have:=hra h;exact lE
   rw[if_neg h];exact⟨by simp[h],fun x hx=>by cases hx⟩)
  have Hob:=Aa (show ((if b.base=[64]then D8 ys b.name else none).isSome=decide (b.base=[64]))/\∀x,(if b.base=[64]then D8 ys b.name else none)=some x->b.base=[64]/\D8 ys b.name=some x from by
   by_cases h:b.base=[64]
   ·have:=hrb h;exact lE
   rw[if_neg h];exact⟨by simp[h],fun x hx=>by cases hx⟩)
  generalize (if a.base=[64]then D8 xs a.name else none)=oa at Hra Hoa;generalize (if b.base=[64]then D8 ys b.name else none)=ob at Hrb Hob;obtain⟨s1,nm1,A4,n4,c4,e1,f1⟩:=Qez Hx.o (o:=oa) (fun x h=>(Cu (Hoa.o.2 x h).2).1);obtain⟨s2,nm2,A5,n5,c5,e2,f2⟩:=Qez Hy.o (o:=ob) (fun x h=>(Cu (Hob.o.2 x h).2).1);have F1:=Aa f1;have F2:=Aa f2;rw[e1,Hoa.o.1]at Hra;rw[e2,Hob.o.1]at Hrb;have Hpl:=Aa (fun(h:¬(a.base=[64]/\b.base=[64]))=>Qi0 (S:=Af xs) (T:=Af ys) (n:=n) (m:=m) Hsg.o ha hb h);have Hpab:=Aa (fun h1 h2=>(⟨of_decide_eq_true h1,of_decide_eq_true h2⟩:a.base=[64]/\b.base=[64]));have Hpno:=Aa (fun(h:decide (a.base=[64])=false\/decide (b.base=[64])=false)=>show ¬(a.base=[64]/\b.base=[64])from fun e=>by rcases h with h|h<;>simp[e.1,e.2]at h);clear f1 f2 e1 e2;generalize decide (a.base=[64])=pa at *;generalize decide (b.base=[64])=pb at *;obtain⟨xy,hxy⟩:∃xy,(B6 a == B6 b)=xy:=⟨_,rfl⟩
  rw[hxy]at Hpl;go_wp2_with fail;refine(Hra.o _ (Hx.o.below Hstq.o.1)).mono ?_;rintro e w2 ⟨rfl,hb2⟩;have Hst2:=Aa (Hstq.o.below hb2);have Hk2:=Aa (Hkq.o.trans (E9.of_below (ab:=w0.heap.size) (mv:=.slice A3 n3 c3) hb2));have z0:w2.cell? (w0,0)=some (.slice A1 xs.length c1):=Hst2.o.2.2.1;have z1:w2.cell? (w0,1)=some (.slice A2 ys.length c2):=Hst2.o.2.2.2.1;have hz2:w0.heap.size<w2.heap.size:=Hst2.o.size;have hn2:¬(w0.heap.size=w2.heap.size):=aH;clear hb2;go_wp2_with fail;refine(Hrb.o _ (Hy.o.below (Hst2.o.1.alloc aH _))).mono ?_;rintro e w4 ⟨rfl,hb4⟩;have Hst4:=Aa ((Hst2.o.below ((Ap _ _).alloc (An _) _)).below hb4);have Hk4:=Aa ((Hk2.o.trans (E9.of_below (ab:=w0.heap.size) (mv:=.slice A3 n3 c3) ((Ap _ _).alloc (An _) _))).trans (E9.of_below (ab:=w0.heap.size) (mv:=.slice A3 n3 c3) hb4));have hz4:w2.heap.size<w4.heap.size:=eS;have n0:w4.cell? (w2,1)=some (.string nm1):=by rw[hb4.cell (p:=⟨w2.heap.size,1,none⟩) aK];simp
  have hn4:¬(w0.heap.size=w4.heap.size):=aH;have hn5:¬(w2.heap.size=w4.heap.size):=aH;have Hwz:=Aa Hk2.o.size;have X9:=@Aa (w4.rangeAt w2 0 [.int .u8 s1,.string nm1,.slice A4 n4 c4]) (Ah (Bk w2 [.int .u8 s1,.string nm1,.slice A4 n4 c4] _) aK hb4);clear hb4 z0 z1;cases pa with
  |false=>
   have HF2:=Aa (Hpl.o (Hpno.o (.inl rfl)));cases xy with
   |false=>
    go_wp2_with fail;exact lG
   |true=>cases pb with
    |false=>
     go_wp2_with fail;exact lG
    |true=>
     go_wp2_with fail;exact lG
  |true=>cases pb with
   |false=>
    have HF2:=Aa (Hpl.o (Hpno.o (.inr rfl)));cases xy with
    |false=>
     go_wp2_with fail;exact lG
    |true=>
     go_wp2_with fail;exact lG
   |true=>
    go_wp2_with fail;have hab:=(by first|exact Hpab.o rfl rfl|exact Hpab.o Ac Ac:a.base=[64]/\b.base=[64])
    obtain⟨x,hxo⟩:∃x,oa=some x:=by
     have:=Hoa.o.1;cases oa with
     |none=>cases this
     |some x=>exact⟨x,rfl⟩
    obtain⟨y,hyo⟩:∃y,ob=some y:=by
     have:=Hob.o.1;cases ob with
     |none=>cases this
     |some y=>exact⟨y,rfl⟩
    obtain⟨t,tv⟩:=x;obtain⟨u,uv⟩:=y;obtain⟨g1,g2⟩:=F1.o _ hxo;obtain⟨g3,g4⟩:=F2.o _ hyo;simp only[]at g1 g2 g3 g4;have hxf:=(Hoa.o.2 _ hxo).2;have hyf:=(Hob.o.2 _ hyo).2;have Hxm:=Aa (Cu hxf);have Hym:=Aa (Cu hyf);rw[show t.name=a.name from Hxm.o.2.1]at g2;rw[show u.name=b.name from Hym.o.2.1]at g4;subst g2 g4;have G1:=Aa g1;have G3:=Aa g3
    have HF2:=Aa (show Kg (Af xs) (Af ys) (n+1) a b m=if (a.name,b.name)∈m then(true,m)else evT (Af xs) (Af ys) (Kg (Af xs) (Af ys) n) t u (m++[(a.name,b.name)])from by
     rw[HF.o,if_neg (by rw[hab.1,hab.2];simp[Hsg.o]),if_neg (by rw[hab.1];simp),Hxm.o.2.2,Hym.o.2.2])
    clear g1 g3 hxo hyo hxf hyf hab;obtain⟨W6,hW6⟩:∃W6,W6=(w4.alloc (.cells #[.int .u8 s2,b.name,.slice A5 n5 c5] 86)).alloc (.cells #[a.name,b.name] 176):=⟨_,rfl⟩
    rw[<-hW6];have Hb6:=@Aa (Below w4 w4 W6) (by rw[hW6];exact((Ap _ _).alloc (An _) _).alloc aK _);have Hst6:=Aa (Hst4.o.below Hb6.o);have Hk6:=Aa (Hk4.o.trans (E9.of_below (ab:=w0.heap.size) (mv:=.slice A3 n3 c3) Hb6.o));have X9':=Aa (Ah X9.o hz4 Hb6.o);have X11:=@Aa (W6.rangeAt w4 0 [.int .u8 s2,b.name,.slice A5 n5 c5]) (by rw[hW6];exact Ah (Bk w4 [.int .u8 s2,b.name,.slice A5 n5 c5] _) (Nat.lt_succ_self _) ((Ap _ _).alloc aK _));have p0:W6.cell? (w4,1,0)=a.name:=by rw[hW6];simp[go_sem]
    have p1:W6.cell? (w4,1,1)=b.name:=by rw[hW6];simp[go_sem]
    have hz6:w4.heap.size+1<W6.heap.size:=gz;have Hrow:=Aa (Cd.ownK Hst6.o.2.2.2.2.2.2 aU);have y2':W6.cell? (w0,2)=some (.slice A3 n3 c3):=Hst6.o.2.2.2.2.1;obtain rfl:n3=m.length:=by
     obtain⟨A,c,e,_⟩:=Hrow.o;injection e
    clear hW6 y0 y1 y2 n0;go_loopw [14] (fun i wr=>∃j:Nat,i=.int .i64 j/\j<=m.length/\(∃q,wr=W6.drewN q)/\Hid ((a.name,b.name)∉m.take j)) (fun i _=>m.length - (intOf i).toNat)
    case atStart=>exact⟨0,rfl,ag _,⟨0,rfl⟩,by simp[Hid]⟩
    case round=>
     obtain⟨j,rfl,hj,⟨q6,rfl⟩,hin⟩:=hrel;have j1:(0:Int)<=(j:Int):=aH;by_cases hlt:j<m.length
     ·have j2:(j:Int)<(m.length:Int):=aH;obtain⟨A,c,e3,hra⟩:=Hrow.o;have hA:A3=A:=by injection e3
      have hc:c3=c:=by injection e3
      subst hA hc;clear e3;obtain⟨bb,off,rfl,hbb,hcc⟩:=Cd.elem Qic aJ hra hlt;have r0:=hcc 0 _ rfl;have r1:=hcc 1 _ rfl;simp only[Nat.add_zero,<-Nat.add_assoc]at r0 r1;have Hts:=Aa (Cn m j hlt);have Hpm:=Aa (ae hlt);generalize m[j]=pj at r0 r1 Hts Hpm;clear hra hcc;obtain⟨be,hbe⟩:∃be,decide (pj=(a.name,b.name))=be:=⟨_,rfl⟩
      go_wp2_with fail;refine Jo [83,84,85,86,87,88,89,90,91]
       (fun i v W=>match i with|0=>v=w0.heap.size|1=>v=w0.heap.size|2=>v=(w0,2)|3=>v=.slice (some ⟨bb,off,none⟩) m.length c3|4=>v=.int .i64 j|5=>v=.pointer (some ⟨bb,off+j*2,none⟩)|6=>v=.agg #[pj.1,pj.2]|7=>v=.agg #[a.name,b.name]|8=>v=.bool be|_=>True)
       (fun L U W=>∃q,W=W6.drewN q) (⟨q6+1,rfl⟩) ?_ ?_
      ·repeat (first|exact Ak.nil|(refine Ak.cons ?_ ?_;rotate_left))
       all_goals
        rintro L U W hL hpre HR Hdep K hK;obtain⟨q,rfl⟩:=HR.o;first|(simp[Region.binds]at hpre;done)|simp[Region.binds]at hpre|clear hpre
       iterate 8
        ·exact ip
       ·go_simp;by_cases h1:pj.1=a.name
        ·by_cases h2:pj.2=b.name
         ·obtain rfl:be=true:=by rw[<-hbe];exact aD (Prod.ext h1 h2)
          rw[if_pos h1,if_pos h2];go_simp;exact hK _ _ _ rfl Ac HR.o (by simp[Act.put,hpre,h1,h2])
         obtain rfl:be=false:=by rw[<-hbe];exact aC (fun e=>h2 (by rw[e]))
         rw[if_pos h1,if_neg h2];go_simp;exact hK _ _ _ rfl Ac HR.o (by simp[Act.put,hpre,h1])
        obtain rfl:be=false:=by rw[<-hbe];exact aC (fun e=>h1 (by rw[e]))
        rw[if_neg h1];exact lH
      rintro L U W hL hφ hR;have e8:U 8=.bool be:=hφ 8 aJ;simp only[e8];clear hφ;obtain⟨q7,rfl⟩:=hR;have Hbe:=Aa hbe;clear hL hbe;cases be with
      |true=>
       have Hmem:=@Aa ((a.name,b.name)∈m) (by have:=of_decide_eq_true Hbe.o;rw[<-this];exact Hpm.o);have Hfin:=Aa (HF2.o.trans (if_pos Hmem.o));go_wp2_with fail;go_ret;rw[Hfin.o];exact⟨rfl,_,Hst6.o.below (below_drewN (Ap _ _) q7),Hk6.o.trans (E9.of_below (below_drewN (Ap _ _) q7))⟩
      |false=>
       have Hnin:=Aa (show (a.name,b.name)∉m.take (j+1)from by
        rw[Hts.o];intro h;rcases af.1 h with h|h
        ·exact hin.o h
        exact of_decide_eq_false Hbe.o (aq.1 h).symm)
       go_wp2_with fail;go_roundw
       case rel=>exact⟨j+1,by go_num,by omega,⟨q7,rfl⟩,Hnin.o⟩
       case measure=>simp[intOf];omega
     ·have Hnin:=@Aa ((a.name,b.name)∉m) (by have:=hin.o;rwa [au aH]at this);have Hfin:=Aa (HF2.o.trans (if_neg Hnin.o));go_wp2_with fail;obtain⟨W7,hW7⟩:∃W7,W7=(W6.drewN q6).drew:=⟨_,rfl⟩
      have Hb7:=@Aa (Below W6 W6 W7) (by rw[hW7];exact(below_drewN (Ap _ _) q6).drew);have Hst7:=Aa (Hst6.o.below Hb7.o);have Hk7:=Aa (Hk6.o.trans (E9.of_below Hb7.o));have y27:W7.cell? (w0,2)=some (.slice A3 m.length c3):=Hst7.o.2.2.2.2.1;have p07:W7.cell? (w4,1,0)=a.name:=(Hb7.o.cell (p:=⟨w4.heap.size+1,0,none⟩) hz6).trans p0;have p17:W7.cell? (w4,1,1)=b.name:=(Hb7.o.cell (p:=⟨w4.heap.size+1,1,none⟩) hz6).trans p1;have hz7:W6.heap.size<=W7.heap.size:=Hb7.o.size;have X9b:=Aa (Ah X9'.out (show w2.heap.size<W6.heap.size by omega) Hb7.o);have X11b:=Aa (Ah X11.o (show w4.heap.size<W6.heap.size by omega) Hb7.o);have HW7:=Aa hW7;clear y2' p0 p1 hW7;refine Bq [92,93,94,95,96,97,98,99,100,101,999] aL aL aL (fun u=>by dsimp only[Bv,Bs,List.set,am,Nat.reduceAdd])
       (fun i v W=>match i with|0=>v=w0.heap.size|1=>v=w0.heap.size|2=>v=w0.heap.size|3=>v=(w0,2)|4=>v=.slice A3 m.length c3|5=>v=.agg #[a.name,b.name]|6=>v=.slice (some ⟨W7.heap.size,0,none⟩) 1 1|7=>∃A n c,v=.slice A n c|8=>v=w0.heap.size|9=>v=(w0,2)|_=>True)
       (fun L U W=>(L 6=false->W=W7)/\(L 6=true->L 7=false->W=W7.alloc (.cells ([a.name,b.name]:List Value).toArray 176)) /\
      (L 7=true->L 10=false->W.ownsRow (w0.heap.size+1) 176 2 (U 7) (m.length+1) (m.flatMap Q9++Q9 (a.name,b.name))/\W7.grownBy W (Value.slice A3 m.length c3).ownBlock/\((U 7).ownBlock=(Value.slice A3 m.length c3).ownBlock\/∃k,(U 7).ownBlock=some k/\W7.heap.size<=k)) /\
      (L 10=true->∃mv5,Gw w0 (.slice A1 xs.length c1) (.slice A2 ys.length c2) W (m++[(a.name,b.name)]) mv5/\E9 w0.heap.size (.slice A3 m.length c3) W7 W mv5)) (fun _ _=>True) (fun _ _ _ _ _ h=>h) (⟨fun _=>HW7.o.symm,(fun h=>Bool.noConfusion h),(fun h=>Bool.noConfusion h),(fun h=>Bool.noConfusion h)⟩) ?_ ?_
      ·repeat (first|exact Ak.nil|(refine Ak.cons ?_ ?_;rotate_left))
       all_goals
        rintro L U W hL hpre hR hun hdep K hK;have HR:=Aa hR;obtain⟨R1,R2,R3,R4⟩:=HR.o;have Hdep:=Aa hdep;clear hun hdep hR;first|(simp[Region.binds]at hpre;done)|simp[Region.binds]at hpre|clear hpre
       iterate 4
        ·exact ip
       ·have h7:L 7=false:=Az Hdep.o 7 4 rfl hL;cases h6:L 6 with
        |false=>
         exact lI
        |true=>
         obtain rfl:=R2 h6 h7;have y2a:(W7.alloc (.cells ([a.name,b.name]:List Value).toArray 176)).cell? (w0,2)=some (.slice A3 m.length c3):=by rw[World.cell?_alloc_old _ _ _ (show w0.heap.size≠W7.heap.size by omega)];exact y27
         exact lq
       ·have h6:L 6=false:=Az Hdep.o 6 5 rfl hL;exact lI
       ·have h7:L 7=false:=Az Hdep.o 7 6 rfl hL;obtain rfl:=R1 hL;go_simp;refine hK _ _ _ rfl Ac ⟨fun h=>by simp at h,fun _ _=>rfl,fun h=>absurd (h7.symm.trans aQ) aJ,fun h=>?_⟩ aI;exact absurd ((Hdep.o 10 _ rfl {on:=6,ground:=Ground.phase} aK cx hL).symm.trans aQ) aJ
       ·obtain⟨⟨l4,u4⟩,l6,u6⟩:=hpre;obtain rfl:=R2 l6 hL;rw[if_pos cx];refine Fl W7 (.tmp 96) (.tmp 98) 145 rfl (w0.heap.size+1) 176 (.agg #[a6,a6]) 2 32 underlying145 Tryz.infoPair rfl aJ (Q9 (a.name,b.name)) rfl (by intro y hy;simp[Q9]at hy;rcases hy with rfl|rfl<;>rfl) (.slice A3 m.length c3) m.length (m.flatMap Q9) u4 u6 Hst7.o.2.2.2.2.2.2 aU aH aH ?_;intro v' w' hown hg hwh;obtain⟨A5',n5',c5',rfl⟩:=Ek hown;refine hK _ _ _ ⟨A5',n5',c5',rfl⟩ Ac ⟨fun h=>absurd (l6.symm.trans aQ) aJ,fun _ h=>by simp at h,fun _ _=>⟨hown,hg,hwh⟩,fun h=>?_⟩ rfl;exact absurd ((Hdep.o 10 _ rfl {on:=7,ground:=Ground.phase} aK cx hL).symm.trans aQ) aJ
       iterate 2
        ·exact ip
       ·obtain⟨l7,A5',n5',c5',u7⟩:L 7=true/\∃A n c,U 7=.slice A n c:=by
         first|exact hpre.1|exact hpre.2.1|exact⟨hpre.1.1,hpre.1.2⟩|exact⟨hpre.2.1.1,hpre.2.1.2⟩
        have hpre6:L 6=true:=by
         cases h6:L 6 with
         |true=>rfl
         |false=>
          have:=Az Hdep.o 7 6 rfl h6;rw[l7]at this;cases this
        obtain⟨hown,hg,hwh⟩:=R3 l7 hL;rw[u7]at hown hwh;have hb8:Below (w0.heap.size+1) W7 W:=(Ap _ _).grown hg aH (fun k hk=>(Hst7.o.2.2.2.2.2.2.lt k hk).1);have hT8:=Aj Hst7.o.2.2.2.2.2.1 (show w0.heap.size<w0.heap.size+1 by omega) hb8;have f8:W.frozen? (w0,2)=false:=(by simpa using(hT8 2 aJ).2)
        obtain⟨x8,hx8⟩:=Option.isSome_iff_exists.1 ((by simpa using(hT8 2 aJ).1:(W.cell? (w0,2)).isSome=true));have HP:=Aa (Gw.push (p:=(a.name,b.name)) Hst7.o hown hg hwh);clear hown hg hwh hb8 hT8 R1 R2 R3 R4;go_simp;refine hK undef _ _ Ac Ac ⟨fun h=>absurd (hpre6.symm.trans aQ) aJ,fun _ h=>absurd (l7.symm.trans aQ) aJ,fun _ h=>by simp at h,fun _=>⟨_,HP.o⟩⟩ gf
      rintro L U W hL hφ hR;clear hφ;obtain⟨mv5,hst8,hk8⟩:=hR.2.2.2 (hL 10 aJ);have x9:=E9.range hk8 X9b.o (show w2.heap.size<W7.heap.size by omega) (show w2.heap.size≠w0.heap.size by omega) (Hst.o.far _ Hwz.o);have x11:=E9.range hk8 X11b.o (show w4.heap.size<W7.heap.size by omega) (show w4.heap.size≠w0.heap.size by omega) (Hst.o.far _ (by have:=Hwz.o;omega));have a0:W.cell? (w2,0)=some (.int .u8 s1):=by simpa using Ab x9 0 rfl
      have a1:W.cell? (w2,1)=a.name:=by simpa using Ab x9 1 rfl
      have a2:W.cell? (w2,2)=some (.slice A4 n4 c4):=by simpa using Ab x9 2 rfl
      have d0:W.cell? (w4,0)=some (.int .u8 s2):=by simpa using Ab x11 0 rfl
      have d1:W.cell? (w4,1)=b.name:=by simpa using Ab x11 1 rfl
      have d2:W.cell? (w4,2)=some (.slice A5 n5 c5):=by simpa using Ab x11 2 rfl
      have Hcall:=Ih.o t tv u uv W mv5 Hxm.o.1 Hym.o.1 hst8 Hxm.o.2.2 Hym.o.2.2 Hnin.o;rw[G1.o,G3.o]at Hcall;generalize evT (Af xs) (Af ys) (Kg (Af xs) (Af ys) n) t u (m++[(a.name,b.name)])=r at *;have Hc:=Aa Hcall;have Hk8:=Aa (Hk7.o.trans hk8);clear hL hR hst8 hk8 x9 x11 Hcall;go_wp2_with fail;refine Hc.o.mono ?_;rintro e w9 ⟨rfl,mv9,hst9,hk9⟩;have Hst9:=Aa hst9;have Hk9:=Aa (Hk8.o.trans hk9);clear hst9 hk9;go_wp2_with fail;go_ret;rw[Hfin.o];exact⟨rfl,mv9,Hst9.o,Hk9.o⟩
end
end Go.Proofs.YtbdibdghphdcdaaGreatDoor
