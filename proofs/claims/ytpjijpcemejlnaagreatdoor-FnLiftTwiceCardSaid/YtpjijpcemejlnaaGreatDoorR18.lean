/- Texts joined. Conditions: as each theorem names them. -/
import Derived.Test.YtpjijpcemejlnaaGreatDoorR17
set_option maxRecDepth 100000
set_option maxHeartbeats 32000000
set_option linter.unusedVariables false
set_option linter.unusedSimpArgs false
namespace Go.Proofs.YtpjijpcemejlnaaGreatDoor
open Go.RowKit Go.Proofs.Tryz
section
attribute [local go_sem] Qm0 Ql8 Qlz Qj6 ByteArray.mk_append_mk
theorem Yv(c:UInt8)(p:List UInt8):∀(l:List (List UInt8)),Aw c (l++[p])=if l=[]then p else Aw c l++c::p
 |[]=>rfl
 |[q]=>rfl
 |q::r::l=>by
  have ih:=Yv c p (r::l);rw[if_neg aN]at ih ⊢;rw[aw,Cz c q aN,ih,Cz c q aN];simp
theorem Qz(c:UInt8)(m:Nat):∀(l:List (List UInt8)),(∀p∈l,p.length<=m)->(Aw c l).length<=l.length*(m+1)
 |[],_=>by simp[Aw]
 |[q],h=>by have:=h q aN;simp[Aw];omega
 |q::r::l,h=>by
  have h1:=h q aN;have h2:=Qz c m (r::l) (fun p hp=>h p (by simp[hp]));rw[Cz c q aN,ai,List.length_cons,List.length_cons,Nat.add_mul];omega
theorem Qgk(A:Option Addr)(c:Nat)(ps:List (List UInt8))(w:World)(hr:Bx w A ps.length (B6 ps))(hl:ps.length<=100)(hp:∀p∈ps,p.length<=10000):
  Calls prog 59 #[.slice A ps.length c] w fun e w'=>e=.returned (.string ⟨(Aw 44 ps).toArray⟩)/\w=w':=by
 have Hr:=Aa hr;have Hp:=Aa hp;clear hr hp;go_enter func59,ntmps59;go_wp2_with fail;go_loop [4,3] (fun i s=>∃k:Nat,i=.int .i64 k/\k<=ps.length/\s=.string ⟨(Aw 44 (ps.take k)).toArray⟩) (fun i _=>ps.length - (intOf i).toNat)
 case atStart=>exact⟨0,rfl,ah _,rfl⟩
 case round=>
  obtain⟨k,rfl,hk,rfl⟩:=hrel;have k1:(0:Int)<=(k:Int):=aI;have hjl:=Qz 44 10000 (ps.take k) (fun p hp=>Hp.o p (List.mem_of_mem_take hp));rw[List.length_take,Nat.min_eq_left hk]at hjl;by_cases hlt:k<ps.length
  ·have k2:(k:Int)<(ps.length:Int):=aI;obtain⟨b,off,rfl,hb,hc⟩:=Hr.o.at_ hlt;have c0:w.cell? ⟨b,off+k,none⟩=some (.string ⟨ps[k].toArray⟩):=by rw[hc];simp[B6]
   have Hsn:=@Aa (Aw 44 (ps.take (k+1))=if ps.take k=[]then ps[k]else Aw 44 (ps.take k)++44::ps[k]) (by rw[Ch ps k hlt];exact Yv 44 ps[k] (ps.take k));have hpl:=Hp.o _ (af hlt);have He:Hid (ps.take k=[]↔k=0):=by
    constructor
    ·intro h;have:=congrArg List.length h;rw[List.length_take,Nat.min_eq_left hk]at this;simpa using this
    rintro rfl;rfl
   generalize ps[k]=p at c0 Hsn hpl;clear hc;by_cases h0:k=0
   ·have h0i:¬(0:Int)<(k:Int):=aI;have Hs2:=Aa (Hsn.o.trans (if_pos (He.o.2 h0)));have hj0:Aw 44 (ps.take k)=[]:=by rw[He.o.2 h0];rfl
    rw[hj0];clear h0 hjl hj0;go_wp2_with fail;go_round
    case rel=>exact⟨k+1,by go_num,by omega,by rw[Hs2.o]⟩
    case measure=>simp[intOf];omega
   have h0i:(0:Int)<(k:Int):=aI;have Hs2:=Aa (Hsn.o.trans (if_neg (fun h=>h0 (He.o.1 h))));generalize Aw 44 (ps.take k)=js at *;clear h0;go_wp2_with fail;go_round
   case rel=>exact⟨k+1,by go_num,by omega,by rw[Hs2.o]⟩
   case measure=>simp[intOf];omega
  ·obtain rfl:k=ps.length:=aI;have Hfin:Hid (ps.take ps.length=ps):=List.take_length;go_wp2_with fail;go_ret;exact⟨by first|rfl|rw[Hfin.o],rfl⟩
def Gv(st:UInt8)(f:Fd):Prop:=f.tag<=200/\f.name.length<=100/\(Bc f.kind).length<=100/\f.given.length<=100/\(st=69->f.given=[])
theorem Qbt{st:UInt8}{f:Fd}(h:Gv st f):(Kn st f).length<=400:=by
 obtain⟨h1,h2,h3,h4,_⟩:=h;have hd:=Db 2 f.tag ca;unfold Kn Jy;split
 ·simp;omega
 split
 ·simp;omega
 simp;omega
theorem Qek(t:Ty)(fv:Value)(w:World)(hf:Dj w fv t.fields)(h8:t.fields.length<=20)(hnm:t.name.length<=100)(hs:∀f∈t.fields,Gv t.sort f):
  Calls prog 70 #[Kt t fv] w fun e w'=>e=.returned (.string ⟨(Xe t++[10]).toArray⟩)/\Below w w w':=by
 obtain⟨A,c,rfl,_,hrow⟩:=hf;have Hrow:=Aa hrow;have Hs:=Aa hs;have HF:Hid (Xe t++[10]=t.sort::(t.name++61::(Aw 44 (t.fields.map (Kn t.sort))++[10]))):=by unfold Xe Hid;simp
 have hcl:=t.sort.toNat_lt;unfold Kt;clear hrow hs;go_enter func70,ntmps70;go_wp2_with fail;obtain⟨w2,hw2⟩:∃w2,w2=(w.alloc (.cells #[.int .u8 (t.sort.toNat:Int),t.name,.slice A t.fields.length c] 90)).alloc (.cells #[] 9):=⟨_,rfl⟩
 rw[<-hw2];have T0:=@Aa (w2.cell? (w,0)=some (.int .u8 (t.sort.toNat:Int))) gp;have T1:=@Aa (w2.cell? (w,1)=t.name) gp;have T2:=@Aa (w2.cell? (w,2)=some (.slice A t.fields.length c)) gp;have Hb2:=@Aa (Below w w w2) (by rw[hw2];exact((Am _ _).alloc (Ao _) _).alloc aN _);have hz2:w2.heap.size=w.heap.size+2:=gB;have Hown2:=@Aa (w2.ownsRow (w.heap.size+1) 9 1 (.slice (w,1,0) 0 0) 0 []) ⟨rfl,.inr ⟨w.heap.size+1,0,#[],rfl,Ao _,by rw[hw2];have:=heap_alloc_new (w.alloc (.cells #[.int .u8 (t.sort.toNat:Int),t.name,.slice A t.fields.length c] 90)) (.cells #[] 9);simpa using this,Ao _,ah _,rfl,rfl⟩⟩;clear hw2;go_loopw [4,3] (fun i lv wr=>∃k:Nat,i=.int .i64 k/\k<=t.fields.length/\Hid (wr.ownsRow (w.heap.size+1) 9 1 lv k (B6 ((t.fields.take k).map (Kn t.sort))))/\Hid (Below (w.heap.size+1) w2 wr)) (fun i _ _=>t.fields.length - (intOf i).toNat)
 case atStart=>exact⟨0,rfl,ah _,Hown2.o,Am _ _⟩
 case round=>
  obtain⟨k,rfl,hk,hown,hbr⟩:=hrel;have k1:(0:Int)<=(k:Int):=aI;have hzr:w2.heap.size<=wr.heap.size:=hbr.o.size;have t0:wr.cell? (w,0)=some (.int .u8 (t.sort.toNat:Int)):=(hbr.o.cell (p:=⟨w.heap.size,0,none⟩) (Nat.lt_succ_self _)).trans T0.o;have t1:wr.cell? (w,1)=t.name:=(hbr.o.cell (p:=⟨w.heap.size,1,none⟩) (Nat.lt_succ_self _)).trans T1.o;have t2:wr.cell? (w,2)=some (.slice A t.fields.length c):=(hbr.o.cell (p:=⟨w.heap.size,2,none⟩) (Nat.lt_succ_self _)).trans T2.o;have Hbw:=@Aa (Below w w wr) (Hb2.o.trans (hbr.o.mono aI));obtain⟨A3,n3,c3,hlv⟩:=Ew hown.o;subst hlv;by_cases hlt:k<t.fields.length
  ·have k2:(k:Int)<(t.fields.length:Int):=aI;obtain⟨b,off,rfl,hbl,g0,g1,g2,g3⟩:=Dj.at_ (Hrow.o.below Hbw.o) hlt;have Hts:=Aa (Ch t.fields k hlt);have Hfs:=Aa (Hs.o _ (af hlt));generalize t.fields[k]=f at g0 g1 g2 g3 Hts Hfs;obtain⟨f1,f2,f3,f4,f5⟩:=Hfs.o;have Hf5:=Aa f5;have hdl:=Db 2 f.tag ca;have Hd:=Aa (fun W=>Gf f.tag f.tag W (Ao _) aI);have hbn:¬(b=wr.heap.size):=aI;clear f5;go_wp2_with fail;obtain⟨W5,hW5⟩:∃W5,W5=wr.alloc (.cells #[(f.tag:Int),f.name,.string ⟨(Bc f.kind).toArray⟩,f.given] 94):=⟨_,rfl⟩
   rw[<-hW5];have hb5:Below wr wr W5:=gM;have F0:=@Aa (W5.cell? (wr,0)=(f.tag:Int)) dK;have F1:=@Aa (W5.cell? (wr,1)=f.name) dK;have F2:=@Aa (W5.cell? (wr,2)=some (.string ⟨(Bc f.kind).toArray⟩)) dK;have F3:=@Aa (W5.cell? (wr,3)=f.given) dK;have L5:=@Aa (wr.heap.size<W5.heap.size) dK;have Hb5:=@Aa (Below (w.heap.size+1) w2 W5) (hbr.o.trans (hb5.mono aI));have Hown5:=Aa (Cv hown.o hb5);have h5w:w.heap.size+1<wr.heap.size:=aI;generalize wr.heap.size=B5 at *;clear hW5 hb5 g0 g1 g2 g3 t0 t1 t2;refine Gd [20,21,22,23,24,25,26,6]
    (fun ix v W=>match ix with|0=>v=B5|1=>v=(f.tag:Int)|2=>v=(Bb f.tag:List UInt8)|3=>v=(Bb f.tag++[58]:List UInt8)|4=>v=(B5,1)|5=>v=(f.name:List UInt8)|6=>v=(Bb f.tag++58::f.name:List UInt8)|7=>v=(Bb f.tag++58::f.name:List UInt8)|_=>True)
    (fun L U W=>Below W5 W5 W) ((Am _ _).drew) ?_ ?_
   ·repeat (first|exact Ai.nil|(refine Ai.cons ?_ ?_;rotate_left))
    all_goals
     rintro L U W hL hpre HR Hdep K hK;have hB:=HR.o;have a0:W.cell? (B5,0)=(f.tag:Int):=(hB.cell (p:=⟨B5,0,none⟩) L5.o).trans F0.o;have a1:W.cell? (B5,1)=f.name:=(hB.cell (p:=⟨B5,1,none⟩) L5.o).trans F1.o;first|(simp[Region.binds]at hpre;done)|simp[Region.binds]at hpre|clear hpre
    iterate 2
     ·exact ii
    ·go_simp;refine(Hd.o W).mono ?_;rintro e w5 ⟨rfl,hb5⟩;exact lH
    ·exact ir
    iterate 2
     ·exact ii
    ·exact ir
    ·exact ii
   rintro L U W hL hφ hR;have e7:U 7=(Bb f.tag++58::f.name:List UInt8):=hφ 7 aL;simp only[e7];clear hφ;have Hb6:=Aa (Hb5.o.trans (hR.mono (by have:=L5.o;omega)));have Hown6:=Aa (Cv Hown5.o hR);have t0:W.cell? (w,0)=some (.int .u8 (t.sort.toNat:Int)):=(Hb6.o.cell (p:=⟨w.heap.size,0,none⟩) (Nat.lt_succ_self _)).trans T0.o;have a2:W.cell? (B5,2)=some (.string ⟨(Bc f.kind).toArray⟩):=(hR.cell (p:=⟨B5,2,none⟩) L5.o).trans F2.o;have a3:W.cell? (B5,3)=f.given:=(hR.cell (p:=⟨B5,3,none⟩) L5.o).trans F3.o;have hzw:w.heap.size+1<=W.heap.size:=by have:=hR.size;have:=L5.o;omega
   clear hL hR;by_cases h69:t.sort=69
   ·have t69:((t.sort.toNat:Int) != 69)=false:=cL;have hgv:=Hf5.o h69;rw[hgv]at a3;have Hrest2:=@Aa (Kn t.sort f=Bb f.tag++58::f.name) (by unfold Kn Jy;rw[if_pos h69];simp);clear h69 hgv;go_wp2_with (at_builtin;refine Em _ rfl _ _ 31 rfl (w.heap.size+1) 9 aa 16 underlying31 Pr rfl W (Bb f.tag++58::f.name:List UInt8) rfl rfl (.slice A3 n3 c3) k (B6 ((t.fields.take k).map (Kn t.sort))) rfl rfl Hown6.o aY aI aI ?_;intro v7 w7 hown7 hg7 _;have Hown7:=Aa hown7;have Hg7:=Aa hg7;clear hown7 hg7)
    go_roundw
    case rel=>
     refine⟨k+1,by go_num,by omega,?_,Hb6.o.grown Hg7.o hzw (fun j hj=>(Hown6.o.lt j hj).1)⟩;exact lI
    case measure=>simp[intOf];omega
   have t69:((t.sort.toNat:Int) != 69)=true:=cK;by_cases hg:f.given=[]
   ·rw[hg]at a3;have Hrest2:=@Aa (Kn t.sort f=Bb f.tag++58::(f.name++58::Bc f.kind)) (by unfold Kn Jy;rw[if_neg h69,if_pos hg];simp);clear h69 hg;go_wp2_with (at_builtin;refine Em _ rfl _ _ 31 rfl (w.heap.size+1) 9 aa 16 underlying31 Pr rfl W (.string ⟨(Bb f.tag++58::(f.name++58::Bc f.kind):List UInt8).toArray⟩) rfl rfl (.slice A3 n3 c3) k (B6 ((t.fields.take k).map (Kn t.sort))) rfl rfl Hown6.o aY aI aI ?_;intro v7 w7 hown7 hg7 _;have Hown7:=Aa hown7;have Hg7:=Aa hg7;clear hown7 hg7)
    go_roundw
    case rel=>
     refine⟨k+1,by go_num,by omega,?_,Hb6.o.grown Hg7.o hzw (fun j hj=>(Hown6.o.lt j hj).1)⟩;exact lI
    case measure=>simp[intOf];omega
   have s1:f.given.isEmpty=false:=by simpa using hg
   have s2:(!f.given.isEmpty)=true:=by simp[s1]
   have Hrest2:=@Aa (Kn t.sort f=Bb f.tag++58::(f.name++58::(Bc f.kind++61::f.given))) (by unfold Kn Jy;rw[if_neg h69,if_neg hg]);clear h69 hg;go_wp2_with (at_builtin;refine Em _ rfl _ _ 31 rfl (w.heap.size+1) 9 aa 16 underlying31 Pr rfl W (.string ⟨(Bb f.tag++58::(f.name++58::(Bc f.kind++61::f.given)):List UInt8).toArray⟩) rfl rfl (.slice A3 n3 c3) k (B6 ((t.fields.take k).map (Kn t.sort))) rfl rfl Hown6.o aY aI aI ?_;intro v7 w7 hown7 hg7 _;have Hown7:=Aa hown7;have Hg7:=Aa hg7;clear hown7 hg7)
   go_roundw
   case rel=>
    refine⟨k+1,by go_num,by omega,?_,Hb6.o.grown Hg7.o hzw (fun j hj=>(Hown6.o.lt j hj).1)⟩;exact lI
   case measure=>simp[intOf];omega
  ·obtain rfl:k=t.fields.length:=aI;have Hjl:=Aa (Qz 44 400 (t.fields.map (Kn t.sort)) (fun p hp=>by obtain⟨f,hf,rfl⟩:=ay.1 hp;exact Qbt (Hs.o f hf)));have hjl:=Hjl.o;rw[List.length_map]at hjl;have Hw:=Aa hown.o;rw[List.take_length]at Hw;obtain⟨A9,c9,e9,hr9⟩:=Bx.own Hw.o;injection e9 with e9 e10 e11;subst e9 e10 e11
   have Hjoin:=Aa (fun W (h:Below wr wr W)=>show Calls prog 59 #[.slice A3 t.fields.length c3] W fun e w'=>e=.returned (.string ⟨(Aw 44 (t.fields.map (Kn t.sort))).toArray⟩)/\W=w' from by
    have:=Qgk A3 c3 (t.fields.map (Kn t.sort)) W (by simpa using hr9.below h) (by rw[List.length_map];omega) (fun p hp=>by obtain⟨f,hf,rfl⟩:=ay.1 hp;have:=Qbt (Hs.o f hf);omega);rwa [List.length_map]at this)
   have W0e:∃W0,W0=wr:=⟨_,rfl⟩
   obtain⟨W0,hW0⟩:=W0e;have Lw:=Aa (show w.heap.size<wr.heap.size by omega);have T0':=Aa t0;have T1':=Aa t1;clear T0 T1;have T0:=T0';have T1:=T1';generalize Aw 44 (t.fields.map (Kn t.sort))=js at *;clear t0 t1 hr9 Hw;go_wp2_with fail;subst hW0;refine Gd [47,48,49,50,51,52,53,54,55,56,57,58,2]
    (fun ix v W=>match ix with|0=>v=w.heap.size|1=>v=.int .u8 (t.sort.toNat:Int)|2=>∃g,v=.slice (some ⟨g,0,none⟩) 1 1|3=>v=([t.sort]:List UInt8)|4=>v=(w,1)|5=>v=(t.name:List UInt8)|6=>v=(t.sort::t.name:List UInt8)|7=>v=.string ⟨(t.sort::(t.name++[61]):List UInt8).toArray⟩|8=>v=.slice A3 t.fields.length c3|9=>v=(js:List UInt8)|10=>v=.string ⟨(t.sort::(t.name++61::js):List UInt8).toArray⟩|11=>v=.string ⟨(t.sort::(t.name++61::(js++[10])):List UInt8).toArray⟩|12=>v=.string ⟨(t.sort::(t.name++61::(js++[10])):List UInt8).toArray⟩|_=>True)
    (fun L U W=>Below W0 W0 W/\(L 2=true->∃g,U 2=.slice (some ⟨g,0,none⟩) 1 1/\g<W.heap.size/\W.cell? ⟨g,0,none⟩=some (.int .u8 (t.sort.toNat:Int)))) (⟨(Am _ _).drew,fun h=>Bool.noConfusion h⟩) ?_ ?_
   ·repeat (first|exact Ai.nil|(refine Ai.cons ?_ ?_;rotate_left))
    all_goals
     rintro L U W hL hpre HR Hdep K hK;obtain⟨hB,R2⟩:=HR.o;have a0:W.cell? (w,0)=some (.int .u8 (t.sort.toNat:Int)):=(hB.cell (p:=⟨w.heap.size,0,none⟩) Lw.o).trans T0.o;have a1:W.cell? (w,1)=t.name:=(hB.cell (p:=⟨w.heap.size,1,none⟩) Lw.o).trans T1.o;first|(simp[Region.binds]at hpre;done)|simp[Region.binds]at hpre|clear hpre
    iterate 2
     ·exact ii
    ·go_simp;exact hK _ _ _ ⟨_,rfl⟩ Ab ⟨hB.alloc hB.size _,fun _=>⟨W.heap.size,rfl,by simp,by simp⟩⟩ aK
    ·have l2:L 2=true:=by first|exact hpre.1|exact hpre.2.1
     obtain⟨g,u2,hg,hc⟩:=R2 l2;have hcv:=Kx W g 1 t.sort hc;go_simp;exact hK _ _ _ rfl Ab HR.o (by simp[Act.put,hpre,u2])
    iterate 2
     ·exact ii
    ·exact ir
    ·exact ir
    ·exact ii
    ·go_simp;refine(Hjoin.o W hB).mono ?_;rintro e w5 ⟨rfl,rfl⟩;exact lJ
    ·exact ir
    ·exact ir
    ·exact ii
   rintro L U W hL hφ hR;have e12:U 12=.string ⟨(t.sort::(t.name++61::(js++[10])):List UInt8).toArray⟩:=hφ 12 aL;simp only[e12];clear hφ;have Hb9:=Aa (Hbw.o.trans (hR.1.mono Hbw.o.size));clear hL hR;go_wp2_with fail;go_ret;exact⟨by rw[HF.o];rfl,Hb9.o⟩
theorem Sh(S:List Ty)(hT:∀t∈S,Ff t):∀(n:Nat) (k:Kd),(Di S n k).length<=6*n
 |0,_=>by simp[Di]
 |n+1,k=>by
  unfold Di;split
  ·simp;omega
  split
  ·simp;omega
  split
  ·simp;omega
  split
  ·simp;omega
  split
  ·simp;omega
  cases hf:Bp S k.name with
  |none=>simp
  |some t=>
   simp only;split
   ·simp;omega
   cases hfs:t.fields with
   |nil=>simp
   |cons f fs=>
    have h1:=((hT t (Cq hf).1).2.2.1.1 f de).2.1;have h2:=Db 2 f.tag ca;have ih:=Sh S hT n f.kind;simp only;split
    ·simp;omega
    simp;omega
def Zo(b:List UInt8):List UInt8:=if b=[110]then[48]else if b=[116]then[39,39]else[110,111]
theorem Qbp(b:List UInt8)(w:World)(hb:b=[110]\/b=[116]\/b=[102]):
  Calls prog 190 #[b] w fun e w'=>e=.returned (.string ⟨(Zo b).toArray⟩)/\w=w':=by
 rcases hb with rfl|rfl|rfl
 ·exact kg
 ·exact kg
 go_enter func190,ntmps190;go_wp2_with fail;exact kN
def Qfv(c:UInt8):List UInt8:=if c=91 then[91,93]else[45]
theorem Tj(v:Value)(c:UInt8)(t:List UInt8)(w:World)(hc:c=91\/c=63)(hl:t.length<=1000):
  Calls prog 157 #[v,.string ⟨(c::t).toArray⟩] w fun e w'=>e=.returned (.string ⟨(Qfv c).toArray⟩)/\w=w':=by
 rcases hc with rfl|rfl
 ·go_enter func157,ntmps157;go_wp2_with fail;exact kN
 go_enter func157,ntmps157;go_wp2_with fail;exact kN
theorem N0{k:Kd}(h:Cm k)(hs:k.signs=[])(hb:k.base≠[64]):Bc k=k.base/\(k.base=[110]\/k.base=[116]\/k.base=[102]):=by
 refine⟨by unfold Bc Bv;rw[hs,if_neg hb];rfl,?_⟩;rcases h.2.1 with h|h
 ·exact absurd h.1 hb
 exact h.1
theorem P6(v:Value)(xs:List (Ty × Value))(k:Kd)(w:World)(hsc:Fu w v xs)(hk:Cm k)(hs:k.signs=[])(hb:k.base≠[64]):
  Calls prog 157 #[v,.string ⟨(Bc k).toArray⟩] w fun e w'=>e=.returned (.string ⟨(Zo k.base).toArray⟩)/\Below w w w':=by
 have Hr:=Aa (fun W h=>E7 v xs k W h hk);have hx:Jw xs k=none:=if_neg (fun h=>hb h.2);rw[hx]at Hr;obtain⟨e1,e2⟩:=N0 hk hs hb;rw[e1]at Hr ⊢;have Hsc:=Aa hsc;have Hp:=Aa (fun W=>Qbp k.base W e2);have He2:=Aa e2;unfold Vg Pu at Hr;generalize k.base=b at *;clear hs hb e1 hsc hx;obtain⟨c,hc,t1,t2⟩:∃c,b=[c]/\((c.toNat:Int) == 91)=false/\((c.toNat:Int) == 63)=false:=by
  rcases e2 with rfl|rfl|rfl
  ·exact⟨110,rfl,by decide,by decide⟩
  ·exact⟨116,rfl,by decide,by decide⟩
  exact⟨102,rfl,by decide,by decide⟩
 clear e2;subst hc;go_enter func157,ntmps157;go_wp2_with fail;refine(Hr.o _ Hsc.o).mono ?_;rintro e w1 ⟨rfl,hb1⟩;go_wp2_with fail;refine(Hp.o _).mono ?_;rintro e w2 ⟨rfl,rfl⟩;go_wp2_with fail;go_ret;exact⟨rfl,hb1.alloc hb1.size _⟩
def Jc(l:List UInt8)(w:World)(e:Ending)(w':World):Prop:=e=.returned l/\Below w w w'
theorem Qb3(xv:Value)(xs:List (Ty × Value))(hok:∀x∈xs,Ff x.1)(n:Nat)(k:Kd)(w:World)(hsc:Fu w xv xs)(hk:Cm k)(hs:k.signs=[])(hb:k.base=[64])(t:Ty)(fv:Value)(hx:Ds xs k.name=some (t,fv))
  (hn:n<=9) (ih:t.sort=85->∀f fs,t.fields=f::fs->∀W,Fu W xv xs->Calls prog 157 #[xv,.string ⟨(Bc f.kind).toArray⟩] W (Jc (Di (Ae xs) n f.kind) W)):
  Calls prog 157 #[xv,.string ⟨(Bc k).toArray⟩] w (Jc (Di (Ae xs) (n+1) k) w):=by
 have Hr:=Aa (fun W h=>E7 xv xs k W h hk);have Hlen:=Aa (Sh (Ae xs) (fun t ht=>by obtain⟨x,hx,rfl⟩:=ay.1 ht;exact hok x hx));have hrx:Jw xs k=some (t,fv):=(if_pos ⟨hs,hb⟩).trans hx
 have HF:=Aa (show Di (Ae xs) (n+1) k=if t.sort=82 then[123,125]else match t.fields with|[]=>[]|f::_=>if t.sort=69 then 35::Bb f.tag else 60::(Bb f.tag++61::(Di (Ae xs) n f.kind++[62]))from by
  rw[Di,if_neg eJ,if_neg eJ,if_neg bP,if_neg bP,if_neg bP,Gt,hx];rfl)
 have hto:=hok _ (Cp hx).1;have hkb:Bc k=64::(k.name++[59]):=dE;have hnl:k.name.length<=3:=by
  rcases hk.2.1 with h|h
  ·exact(Dm.1 h.2).2.1
  rw[hb]at h;exact absurd h.1 aL
 have hfd:Dj w fv t.fields:=by obtain⟨_,_,_,_,_,hf⟩:=hsc;exact hf _ (Cp hx).1
 rw[hrx]at Hr;rw[hkb]at Hr ⊢;obtain⟨A,c,rfl,hfl,hrow⟩:=hfd;have Hsc:=Aa hsc;have Hrow:=Aa hrow;have Hto:=Aa hto;have Ih:=Aa ih;unfold Vg Kt at Hr;simp only[]at hto;clear hsc hk hs hb hx hkb hrow hto hrx ih hok;by_cases h82:t.sort=82
 ·have t82:((t.sort.toNat:Int) == 82)=true:=Bl (d:=82) h82;have HF2:=Aa (HF.o.trans (if_pos h82));clear h82 HF;go_enter func157,ntmps157;go_wp2_with fail;refine(Hr.o _ Hsc.o).mono ?_;rintro e w1 ⟨rfl,hb1⟩;go_wp2_with fail;go_ret;exact⟨by rw[HF2.o];rfl,hb1.alloc hb1.size _⟩
 have t82:((t.sort.toNat:Int) == 82)=false:=Ap (d:=82) h82;have HF2:=Aa (HF.o.trans (if_neg h82));have hne:t.fields≠[]:=fun h=>h82 (Hto.o.2.2.2.2 h);obtain⟨f,fs,hfs⟩:∃f fs,t.fields=f::fs:=by
  cases h:t.fields with
  |nil=>exact absurd h hne
  |cons f fs=>exact⟨f,fs,rfl⟩
 have hf0:0<t.fields.length:=de;have hge:t.fields[0]=f:=by simp[hfs]
 have hft:=Hto.o.2.2.1.1 f de;have htag:f.tag<=200:=hft.2.1;have hdl:=Db 2 f.tag ca;have Hd:=Aa (fun W=>Gf f.tag f.tag W (Ao _) aI);have hi0:(0:Int)<(t.fields.length:Int):=aI;have HF3:=@Aa (Di (Ae xs) (n+1) k=if t.sort=69 then 35::Bb f.tag else 60::(Bb f.tag++61::(Di (Ae xs) n f.kind++[62]))) (by rw[HF2.o,hfs]);have Hfs:=Aa hfs;have Hge:=Aa hge;obtain⟨b,off,rfl,hbl,g0,g1,g2,g3⟩:=Dj.at_ Hrow.o hf0;rw[hge]at g0 g1 g2 g3;simp only[Nat.zero_mul,Nat.add_zero]at g0 g1 g2 g3;have H82:=Aa h82;clear HF2 HF h82 hne hfs hge hft g1 g3;by_cases h69:t.sort=69
 ·have t69:((t.sort.toNat:Int) == 69)=true:=Bl (d:=69) h69;have HF4:=Aa (HF3.o.trans (if_pos h69));clear h69 HF3;go_enter func157,ntmps157;go_wp2_with fail;refine(Hr.o _ Hsc.o).mono ?_;rintro e w1 ⟨rfl,hb1⟩;have g0':=(hb1.cell (p:=⟨b,off,none⟩) hbl).trans g0;have hbl1:b<w1.heap.size:=ad hbl hb1.size;have hbn:¬(b=w1.heap.size):=aI;have Hb1:=Aa hb1;clear hb1 g0 g2;go_wp2_with fail;refine(Hd.o _).mono ?_;rintro e w2 ⟨rfl,hb2⟩;go_wp2_with fail;go_ret;exact⟨by rw[HF4.o];simp,(Hb1.o.alloc Hb1.o.size _).trans (hb2.mono (by have:=Hb1.o.size;simp;omega))⟩
 have t69:((t.sort.toNat:Int) == 69)=false:=Ap (d:=69) h69;have HF4:=Aa (HF3.o.trans (if_neg h69));have h85:t.sort=85:=by
  rcases Hto.o.1 with h|h|h
  ·exact absurd h H82.o
  ·exact h
  exact absurd h h69
 have Ih2:=Aa (Ih.o h85 f fs Hfs.o);have hsl:=Hlen.o n f.kind;generalize Di (Ae xs) n f.kind=sl at *;generalize Bc f.kind=kd at *;clear h69 HF3 h85 Ih;go_enter func157,ntmps157;go_wp2_with fail;refine(Hr.o _ Hsc.o).mono ?_;rintro e w1 ⟨rfl,hb1⟩;have g0':=(hb1.cell (p:=⟨b,off,none⟩) hbl).trans g0;have g2':=(hb1.cell (p:=⟨b,off+2,none⟩) hbl).trans g2;have hbl1:b<w1.heap.size:=ad hbl hb1.size;have hbn:¬(b=w1.heap.size):=aI;have Hb1:=Aa hb1;clear hb1 g0 g2;go_wp2_with fail;obtain⟨W0,hW0⟩:∃W0,W0=w1.alloc (.cells #[.int .u8 (t.sort.toNat:Int),t.name,.slice (some ⟨b,off,none⟩) t.fields.length c] 90):=⟨_,rfl⟩
 rw[<-hW0];have y2:W0.cell? (w1,2)=some (.slice (some ⟨b,off,none⟩) t.fields.length c):=by rw[hW0];simp
 have y0:W0.cell? ⟨b,off,none⟩=(f.tag:Int):=by rw[hW0,World.cell?_alloc_old _ _ _ hbn];exact g0'
 have y3:W0.cell? ⟨b,off+2,none⟩=kd:=by rw[hW0,World.cell?_alloc_old _ _ _ hbn];exact g2'
 have hz0:W0.heap.size=w1.heap.size+1:=by rw[hW0];simp
 have hB5:w1.heap.size<W0.heap.size:=aI;have hb5:b<W0.heap.size:=aI;have Hb0:=@Aa (Below w w W0) (by rw[hW0];exact Hb1.o.alloc Hb1.o.size _);have Hsc0:=Aa (Hsc.o.below Hb0.o);generalize w1.heap.size=B5 at *;clear hW0 hz0 g0' g2';refine Gd [39,40,41,42,43,44,45,46,47,48,49,50,51,52,53,54,55,4]
  (fun i v W=>match i with|0=>v=(B5,2)|1=>v=.slice (some ⟨b,off,none⟩) t.fields.length c|2=>v=.pointer (some ⟨b,off,none⟩)|3=>v=.pointer (some ⟨b,off,none⟩)|4=>v=(f.tag:Int)|5=>v=.string ⟨(Bb f.tag).toArray⟩|6=>v=.string ⟨(60::Bb f.tag).toArray⟩|7=>v=.string ⟨(60::(Bb f.tag++[61])).toArray⟩|8=>v=xv|9=>v=(B5,2)|10=>v=.slice (some ⟨b,off,none⟩) t.fields.length c|11=>v=.pointer (some ⟨b,off,none⟩)|12=>v=.pointer (some ⟨b,off+2,none⟩)|13=>v=kd|14=>v=sl|15=>v=.string ⟨(60::(Bb f.tag++61::sl)).toArray⟩|16=>v=.string ⟨(60::(Bb f.tag++61::(sl++[62]))).toArray⟩|17=>v=.string ⟨(60::(Bb f.tag++61::(sl++[62]))).toArray⟩|_=>True)
  (fun L U W=>Below W0 W0 W) ((Am _ _).drew) ?_ ?_
 ·repeat (first|exact Ai.nil|(refine Ai.cons ?_ ?_;rotate_left))
  all_goals
   rintro L U W hL hpre HR Hdep K hK;have hB:=HR.o;have c2:=(hB.cell (p:=⟨B5,2,none⟩) hB5).trans y2;have c0:=(hB.cell (p:=⟨b,off,none⟩) hb5).trans y0;have c3:=(hB.cell (p:=⟨b,off+2,none⟩) hb5).trans y3;first|(simp[Region.binds]at hpre;done)|simp[Region.binds]at hpre|clear hpre
  iterate 5
   ·exact ii
  ·exact jR
  ·exact ir
  ·exact ir
  iterate 6
   ·exact ii
  ·exact jL
  ·exact ir
  ·exact ir
  ·exact ii
 rintro L U W hL hφ hR;have e17:U 17=.string ⟨(60::(Bb f.tag++61::(sl++[62]))).toArray⟩:=hφ 17 aL;simp only[e17];clear hφ;have Hb9:=Aa (Hb0.o.trans (hR.mono Hb0.o.size));clear hR;go_wp2_with fail;go_ret;exact⟨by rw[HF4.o];rfl,Hb9.o⟩
theorem Qo(S:List Ty)(n:Nat)(k:Kd)(c:UInt8)(t:List UInt8)(h:k.signs=c::t)(hc:c=91\/c=63):Di S (n+1) k=Qfv c:=by
 unfold Di Qfv;rw[h];rcases hc with rfl|rfl
 ·rfl
 rfl
theorem No(S:List Ty)(n:Nat)(k:Kd)(h:k.signs=[])(hb:k.base=[110]\/k.base=[116]\/k.base=[102]):Di S (n+1) k=Zo k.base:=by
 unfold Di Zo;rw[h];rcases hb with hb|hb|hb<;>rw[hb]<;>rfl
theorem Sk{k:Kd}(h:Cm k){c:UInt8}{t:List UInt8}(hs:k.signs=c::t):c=91\/c=63:=by
 have:=h.1;rw[hs,List.all_cons,ax]at this;have:=this.1;unfold Bn at this;simpa using this
theorem Qc4(xv:Value)(xs:List (Ty × Value))(hok:∀x∈xs,Ff x.1)(hS:Ha (Ae xs)):∀(n:Nat),n<=9->∀(k:Kd) (w:World),Fu w xv xs->Cm k->B0 (Ae xs) k->Vp (Ae xs) n k ->
  Calls prog 157 #[xv,.string ⟨(Bc k).toArray⟩] w (Jc (Di (Ae xs) (n+1) k) w):=by
 intro n;induction n with
 |zero=>
  intro _ k w hsc hk hr he;cases hs:k.signs with
  |cons c t=>
   have hc:=Sk hk hs;have hkb:Bc k=c::(t++Bv k):=dU;have hl:=hk.2.2;rw[hkb]at hl ⊢;rw[Qo _ _ k c t hs hc];refine(Tj xv c (t++Bv k) w hc gq).mono ?_;rintro e w' ⟨rfl,rfl⟩;exact lK
  |nil=>
   by_cases hb:k.base=[64]
   ·obtain⟨t,_,h⟩:=he hs hb;exact absurd h (by simp[B8])
   exact lL
 |succ n ih=>
  intro hn k w hsc hk hr he;cases hs:k.signs with
  |cons c t=>
   have hc:=Sk hk hs;have hkb:Bc k=c::(t++Bv k):=dU;have hl:=hk.2.2;rw[hkb]at hl ⊢;rw[Qo _ _ k c t hs hc];refine(Tj xv c (t++Bv k) w hc gq).mono ?_;rintro e w' ⟨rfl,rfl⟩;exact lK
  |nil=>
   by_cases hb:k.base=[64]
   ·have h1:=hr hb;rw[Gt]at h1;cases hx:Ds xs k.name with
    |none=>rw[hx]at h1;cases h1
    |some x=>
     obtain⟨t,fv⟩:=x;have hft:Bp (Ae xs) k.name=some t:=(Cp hx).2.2;have hto:Ff t:=hok _ (Cp hx).1;refine Qb3 xv xs hok (n+1) k w hsc hk hs hb t fv hx hn (fun h85 f fs hfs W hW=>?_);have hrf:B0 (Ae xs) f.kind:=hS t (Cq hft).1 ep f de;exact lM
   exact lL
theorem Tu{S:List Ty}(h:Je S){k:Kd}(hr:B0 S k):Vp S 9 k:=by
 intro hs hb;have h1:=hr hb;cases hf:Bp S k.name with
 |none=>rw[hf]at h1;cases h1
 |some t=>exact⟨t,rfl,h.2.2 t (Cq hf).1⟩
theorem Qc2(xv:Value)(xs:List (Ty × Value))(h:Je (Ae xs))(k:Kd)(w:World)(hsc:Fu w xv xs)(hk:Cm k)(hr:B0 (Ae xs) k):
  Calls prog 157 #[xv,.string ⟨(Bc k).toArray⟩] w (Jc (Vf (Ae xs) k) w):=
 Qc4 xv xs (fun x hx=>h.1.1 x.1 (aq hx)) h.2.1 9 (Ao _) k w hsc hk hr (Tu h hr)
theorem Mz(xv:Value)(xs:List (Ty × Value))(h:Je (Ae xs))(f:Fd)(w:World)(hsc:Fu w xv xs)(hk:Cm f.kind)(hr:B0 (Ae xs) f.kind)(hl:f.given.length<=1000):
  Calls prog 123 #[xv,sfV f] w (Jc (Jf (Ae xs) f) w):=by
 have HF:=@Aa (Jf (Ae xs) f=if f.given=[]then Vf (Ae xs) f.kind else f.given) rfl;have Hs:=Aa (fun W (h1:Fu W xv xs)=>Qc2 xv xs h f.kind W h1 hk hr);have Hsc:=Aa hsc;unfold sfV;generalize Bc f.kind=kd at *;clear h hk hr hsc;by_cases hg:f.given=[]
 ·have HF2:=Aa (HF.o.trans (if_pos hg));rw[hg];clear hg HF;go_enter func123,ntmps123;go_wp2_with fail;refine(Hs.o _ (Hsc.o.below ((Am _ _).alloc (Ao _) _))).mono ?_;rintro e w1 ⟨rfl,hb1⟩;go_wp2_with fail;go_ret;exact⟨by rw[HF2.o];rfl,((Am _ _).alloc (Ao _) _).trans (hb1.mono aN)⟩
 have HF2:=Aa (HF.o.trans (if_neg hg));have t1:f.given.isEmpty=false:=by simpa using hg
 have t2:(!f.given.isEmpty)=true:=by simp[t1]
 clear hg HF;go_enter func123,ntmps123;go_wp2_with fail;go_ret;exact⟨by rw[HF2.o];rfl,(Am _ _).alloc (Ao _) _⟩
end
def Qf(p:Da):List Value:=[p.1,p.2]
theorem Qg4(p:Da):(Qf p).length=2:=rfl
theorem Tryz.infoPair:(prog.info? 202).map (fun i=>(i.zero,i.size,i.bytes))=some (some (.agg #[aa,aa]),2,32):=aP
def Gm(w0:World)(v1 v2:Value)(w:World)(m:List Da)(mv:Value):Prop:=
 Below w0 w0 w/\w0.heap.size+1<=w.heap.size/\w.cell? (w0,0)=some v1/\w.cell? (w0,1)=some v2/\w.cell? (w0,2)=some mv/\w.there w0 0 3 /\
  w.ownsRow (w0.heap.size+1) 202 2 mv m.length (m.flatMap Qf)
structure Eu(ab:Nat)(mv:Value)(w w':World)(mv':Value):Prop where
 size:w.heap.size<=w'.heap.size
 block:∀b,b<w.heap.size->b≠ab->some b≠mv.ownBlock->w'.heap[b]?=w.heap[b]?
 own:mv'.ownBlock=mv.ownBlock\/∃k,mv'.ownBlock=some k/\w.heap.size<=k
theorem Eu.refl(ab:Nat)(mv:Value)(w:World):Eu ab mv w w mv:=⟨Ao _,fun _ _ _ _=>rfl,.inl rfl⟩
theorem Eu.trans{ab:Nat}{v1 v2 v3:Value}{a b c:World}(h:Eu ab v1 a b v2)(k:Eu ab v2 b c v3):Eu ab v1 a c v3:=by
 refine⟨ae h.size k.size,fun x hx h1 h2=>(k.block x (ad hx h.size) h1 ?_).trans (h.block x hx h1 h2),?_⟩
 ·rcases h.own with e|⟨y,e,hy⟩
  ·rw[e];exact h2
  rw[e];intro he;injection he with he;omega
 rcases k.own with e|⟨y,e,hy⟩
 ·rw[e];exact h.own
 exact .inr ⟨y,e,ae h.size hy⟩
theorem Eu.of_below{ab:Nat}{mv:Value}{w w':World}(h:Below w w w'):Eu ab mv w w' mv:=⟨h.size,fun b hb _ _=>h.block b hb,.inl rfl⟩
theorem Eu.cell{ab:Nat}{mv mv':Value}{w w':World}(h:Eu ab mv w w' mv'){b o:Nat}(hb:b<w.heap.size)(h1:b≠ab)(h2:some b≠mv.ownBlock):w'.cell? ⟨b,o,none⟩=w.cell? ⟨b,o,none⟩:=World.cell?_of_block (h.block b hb h1 h2)
theorem Eu.range{ab:Nat}{mv mv':Value}{w w':World}(h:Eu ab mv w w' mv'){b o:Nat}{cs:List Value}(hr:w.rangeAt b o cs)(hb:b<w.heap.size)(h1:b≠ab)(h2:some b≠mv.ownBlock):w'.rangeAt b o cs:=fun j v hv=>(h.cell hb h1 h2).trans (hr j v hv)
theorem Gm.size{w0 w:World}{v1 v2 mv:Value}{m:List Da}(h:Gm w0 v1 v2 w m mv):w0.heap.size<w.heap.size:=h.2.1
theorem Gm.far{w0 w:World}{v1 v2 mv:Value}{m:List Da}(h:Gm w0 v1 v2 w m mv):∀b,w.heap.size<=b->some b≠mv.ownBlock:=fun b hb e=>by
 have:=(h.2.2.2.2.2.2.lt b e.symm).2;omega
theorem Gm.below{w0 w w':World}{v1 v2 mv:Value}{m:List Da}(h:Gm w0 v1 v2 w m mv)(hb:Below w w w'):Gm w0 v1 v2 w' m mv:=by
 obtain⟨h1,h2,h3,h4,h5,h6,h7⟩:=h
 exact⟨h1.trans (hb.mono aI),ae h2 hb.size,(hb.cell (p:=⟨w0.heap.size,0,none⟩) (show w0.heap.size<_ by omega)).trans h3,(hb.cell (p:=⟨w0.heap.size,1,none⟩) (show w0.heap.size<_ by omega)).trans h4,
  (hb.cell (p:=⟨w0.heap.size,2,none⟩) (show w0.heap.size<_ by omega)).trans h5,An h6 aI hb,Cv h7 hb⟩
theorem Gm.push{w0 w w5:World}{v1 v2 mv mv5:Value}{m:List Da}{p:Da}(h:Gm w0 v1 v2 w m mv)(hown:w5.ownsRow (w0.heap.size+1) 202 2 mv5 (m.length+1) (m.flatMap Qf++Qf p))(hg:w.grownBy w5 mv.ownBlock)
  (hwh:mv5.ownBlock=mv.ownBlock\/∃k,mv5.ownBlock=some k/\w.heap.size<=k):
  Gm w0 v1 v2 (w5.setCell ⟨w0.heap.size,2,none⟩ mv5) (m++[p]) mv5/\Eu w0.heap.size mv w (w5.setCell ⟨w0.heap.size,2,none⟩ mv5) mv5:=by
 obtain⟨h1,h2,h3,h4,h5,h6,h7⟩:=h;have hb:Below (w0.heap.size+1) w w5:=(Am _ _).grown hg h2 (fun k hk=>(h7.lt k hk).1);have h6':w5.there w0 0 3:=An h6 (show w0.heap.size<w0.heap.size+1 by omega) hb;have hc:∀j,j≠2->(w5.setCell ⟨w0.heap.size,2,none⟩ mv5).cell? ⟨w0.heap.size,j,none⟩=w.cell? ⟨w0.heap.size,j,none⟩:=fun j hj=>by
  rw[World.cell?_setCell_other _ _ _ _ (by intro e;injection e with e1 e2;omega)];exact hb.cell (p:=⟨w0.heap.size,j,none⟩) (show w0.heap.size<_ by omega)
 refine⟨⟨(h1.trans (hb.mono aI)).setCell (Ao _) _,by simp;exact ae h2 hb.size,(hc 0 aL).trans h3,(hc 1 aL).trans h4,?_,aj h6' w0.heap.size 2 [_],?_⟩,?_⟩
 ·have:=ac w5 w0 2 [mv5] (Me h6' 2 1 aL aL);exact(by simpa using Ac this 0 rfl:(w5.setCells w0 2 [mv5]).cell? (w0,2)=some mv5)
 ·rw[ai,List.flatMap_append];refine World.ownsRow.kept (show w5.ownsRow (w0.heap.size+1) 202 2 mv5 (m.length+[p].length) (m.flatMap Qf++[p].flatMap Qf)from by simpa using hown) (Md w5 _ _) (.inr (fun e=>absurd (show w0.heap.size+1<=w0.heap.size from(hown.lt _ e).1) aI))
 refine⟨by simp;exact hg.size,fun b hb h1 h2=>?_,hwh⟩;rw[Below.heap_setCell _ _ _ _ h1];exact hg.block b hb h2
def Yk(w0:World)(v1 v2:Value)(r:Bool × List Da)(w:World)(mv:Value)(e:Ending)(w':World):Prop:=e=.returned (.bool r.1)/\∃mv',Gm w0 v1 v2 w' r.2 mv'/\Eu w0.heap.size mv w w' mv'
section
attribute [local go_sem] Qm0 Ql8 Qlz Qj6 ByteArray.mk_append_mk
theorem Xu{k:Kd}(h:Cm k):Cm k.core/\Bc k.core=Bv k:=by
 refine⟨⟨by simp[Kd.core],h.2.1,?_⟩,by simp[Bc,Kd.core];rfl⟩;have:=h.2.2;unfold Bc Kd.core Bv at *;simp at *;omega
theorem Qgg(xs:List (Ty × Value))(k:Kd):Jw xs k.core=if k.base=[64]then Ds xs k.name else none:=by
 unfold Jw Kd.core;simp
theorem Qct{w:World}{v:Value}{xs:List (Ty × Value)}(h:Fu w v xs){o:Option (Ty × Value)}(ho:∀x,o=some x->x∈xs):
  ∃(s:Int) (nm:ByteArray) (A:Option Addr) (n c:Nat),Vg o=.tuple #[.agg #[.int .u8 s,.string nm,.slice A n c],.bool o.isSome]/\∀x,o=some x->Kt x.1 x.2=.agg #[.int .u8 s,.string nm,.slice A n c]/\nm=⟨x.1.name.toArray⟩:=by
 obtain⟨_,_,_,_,_,hf⟩:=h;cases o with
 |none=>exact⟨0,⟨#[]⟩,none,0,0,rfl,fun x h=>by cases h⟩
 |some x=>
  obtain⟨A,c,e,_,_⟩:=hf x (ho x rfl);refine⟨(x.1.sort.toNat:Int),⟨x.1.name.toArray⟩,A,x.1.fields.length,c,?_,fun y hy=>?_⟩
  ·show Value.tuple #[.agg #[_,_,x.2],.bool true]=_;rw[e];rfl
  injection hy with hy;subst hy;unfold Kt;rw[e];exact kQ
theorem Qgn{S T:List Ty}{n:Nat}{a b:Kd}{m:List Da}(hs:a.signs=b.signs)(ha:Cm a)(hb:Cm b)(h:¬(a.base=[64]/\b.base=[64])):
  J4 S T (n+1) a b m=((Bv a == Bv b) && (!decide (a.base=[64]) && !decide (b.base=[64])),m):=by
 unfold J4;by_cases h1:a.base=[64]
 ·have h2:b.base≠[64]:=fun h2=>h ⟨h1,h2⟩;rw[if_pos (.inr (by rw[h1];exact fun e=>h2 e.symm))];simp[h1]
 by_cases h2:b.base=[64]
 ·rw[if_pos (.inr (by rw[h2];exact h1))];simp[h2]
 have e1:Bv a=a.base:=if_neg h1;have e2:Bv b=b.base:=if_neg h2;by_cases h3:a.base=b.base
 ·rw[if_neg (by simp[hs,h3]),if_pos h1,e1,e2,h3];simp[h2]
 rw[if_pos (.inr h3),e1,e2];simp[h3]
theorem Qe8(w0:World)(v1 v2:Value)(xs ys:List (Ty × Value))(hx:Fu w0 v1 xs)(hy:Fu w0 v2 ys)(n:Nat)(a b:Kd)(m:List Da)(w:World)(mv:Value)
  (ha:Cm a) (hb:Cm b) (hra:B0 (Ae xs) a) (hrb:B0 (Ae ys) b) (hm:m.length<=64) (hst:Gm w0 v1 v2 w m mv)
  (ih:∀t fv u gv W mv',(t,fv)∈xs->(u,gv)∈ys->Gm w0 v1 v2 W (m++[(a.name,b.name)]) mv'->Bp (Ae xs) a.name=some t->Bp (Ae ys) b.name=some u->(a.name,b.name)∉m ->
   Calls prog 156 #[w0.heap.size,Kt t fv,Kt u gv] W (Yk w0 v1 v2 (evT (Ae xs) (Ae ys) (J4 (Ae xs) (Ae ys) n) t u (m++[(a.name,b.name)])) W mv')):
  Calls prog 122 #[w0.heap.size,.string ⟨(Bc a).toArray⟩,.string ⟨(Bc b).toArray⟩] w (Yk w0 v1 v2 (J4 (Ae xs) (Ae ys) (n+1) a b m) w mv):=by
 have HF:=Aa (show J4 (Ae xs) (Ae ys) (n+1) a b m=(if a.signs≠b.signs\/a.base≠b.base then(false,m)
  else if a.base≠[64]then(true,m)
  else match Bp (Ae xs) a.name,Bp (Ae ys) b.name with
   |some t,some u=>if (a.name,b.name)∈m then(true,m)else evT (Ae xs) (Ae ys) (J4 (Ae xs) (Ae ys) n) t u (m++[(a.name,b.name)])
   |_,_=>(false,m))from by rw[J4]<;>rfl)
 have Hca:=Aa (fun W=>Nd a ha W);have Hcb:=Aa (fun W=>Nd b hb W);have Hst:=Aa hst;have Hx:=Aa hx;have Hy:=Aa hy;have Ih:=Aa ih;obtain⟨A1,c1,rfl,hxl,_⟩:=hx;obtain⟨A2,c2,rfl,hyl,_⟩:=hy;obtain⟨A3,n3,c3,rfl⟩:=Ew hst.2.2.2.2.2.2;have hla:=ha.2.2;have hlb:=hb.2.2;have ea:Bc a=a.signs++Bv a:=rfl;have eb:Bc b=b.signs++Bv b:=rfl;rw[ea]at Hca hla ⊢;rw[eb]at Hcb hlb ⊢;simp only[ai]at hla hlb;have hw1:IntKind.i64.wrap (a.signs.length:Int)=a.signs.length:=IntWalk.i64_in _ ⟨by omega,by omega⟩;have hw2:IntKind.i64.wrap (b.signs.length:Int)=b.signs.length:=IntWalk.i64_in _ ⟨by omega,by omega⟩;clear hst ih ea eb;go_enter func122,ntmps122;go_wp2_with fail;refine(Hca.o _).mono ?_;rintro e w1 ⟨rfl,rfl⟩;go_wp2_with fail;refine(Hcb.o _).mono ?_;rintro e w1 ⟨rfl,rfl⟩;go_wp2_with fail;obtain⟨sb,hsb⟩:∃sb,(!(a.signs == b.signs))=sb:=⟨_,rfl⟩
 refine Gd [19,20,21,22,23,24,25,26,27,28,29,30,31,32,33]
  (fun i v W=>match i with|0=>v=.string ⟨(a.signs++Bv a).toArray⟩|1=>v=.string ⟨(a.signs++Bv a).toArray⟩|2=>v=.int .i64 ((a.signs.length:Int)+((Bv a).length:Int))|3=>v=.string ⟨(Bv a).toArray⟩|4=>v=.int .i64 ((Bv a).length:Int)|5=>v=(a.signs.length:Int)|6=>v=a.signs|7=>v=.string ⟨(b.signs++Bv b).toArray⟩|8=>v=.string ⟨(b.signs++Bv b).toArray⟩|9=>v=.int .i64 ((b.signs.length:Int)+((Bv b).length:Int))|10=>v=.string ⟨(Bv b).toArray⟩|11=>v=.int .i64 ((Bv b).length:Int)|12=>v=(b.signs.length:Int)|13=>v=b.signs|14=>v=.bool sb|_=>True)
  (fun L U W=>∃q,W=w.drewN q) (⟨1,rfl⟩) ?_ ?_
 ·repeat (first|exact Ai.nil|(refine Ai.cons ?_ ?_;rotate_left))
  all_goals
   rintro L U W hL hpre HR Hdep K hK;obtain⟨q,rfl⟩:=HR.o;first|(simp[Region.binds]at hpre;done)|simp[Region.binds]at hpre|clear hpre
  iterate 6
   ·exact jg
  ·exact iN
  iterate 6
   ·exact jg
  ·exact iN
  ·exact jg
 rintro L U W hL hφ hR;have e14:U 14=.bool sb:=hφ 14 aL;simp only[e14];clear hφ;obtain⟨q,rfl⟩:=hR;have Hstq:=Aa (Hst.o.below (below_drewN (Am _ _) q));have Hkq:=Aa (Eu.of_below (ab:=w0.heap.size) (mv:=.slice A3 n3 c3) (below_drewN (Am w.heap.size w) q));obtain⟨_,hsz,y0,y1,y2,_,_⟩:=Hstq.o;clear hL;have Hsb:=Aa hsb;clear hsb;cases sb with
 |true=>
  have HF1:=Aa (HF.o.trans (if_pos (.inl (by have:=Hsb.o;simpa using this))));go_wp2_with fail;go_ret;rw[HF1.o];exact⟨rfl,_,Hstq.o,Hkq.o⟩
 |false=>
  have hsg:a.signs=b.signs:=by have:=Hsb.o;simpa using this
  have Hsg:=Aa hsg;have Hra:=Aa (fun W (h:Fu W (.slice A1 xs.length c1) xs)=>(Xu ha).2 ▸ E7 _ xs a.core W h (Xu ha).1);have Hrb:=Aa (fun W (h:Fu W (.slice A2 ys.length c2) ys)=>(Xu hb).2 ▸ E7 _ ys b.core W h (Xu hb).1);rw[Qgg]at Hra Hrb;clear hsg;go_wp2_with fail
  have Hoa:=Aa (show ((if a.base=[64]then Ds xs a.name else none).isSome=decide (a.base=[64]))/\∀x,(if a.base=[64]then Ds xs a.name else none)=some x->a.base=[64]/\Ds xs a.name=some x from by
   by_cases h:a.base=[64]
   ·have:=hra h;exact lN
   rw[if_neg h];exact⟨by simp[h],fun x hx=>by cases hx⟩)
  have Hob:=Aa (show ((if b.base=[64]then Ds ys b.name else none).isSome=decide (b.base=[64]))/\∀x,(if b.base=[64]then Ds ys b.name else none)=some x->b.base=[64]/\Ds ys b.name=some x from by
   by_cases h:b.base=[64]
   ·have:=hrb h;exact lN
   rw[if_neg h];exact⟨by simp[h],fun x hx=>by cases hx⟩)
  generalize (if a.base=[64]then Ds xs a.name else none)=oa at Hra Hoa;generalize (if b.base=[64]then Ds ys b.name else none)=ob at Hrb Hob;obtain⟨s1,nm1,A4,n4,c4,e1,f1⟩:=Qct Hx.o (o:=oa) (fun x h=>(Cp (Hoa.o.2 x h).2).1);obtain⟨s2,nm2,A5,n5,c5,e2,f2⟩:=Qct Hy.o (o:=ob) (fun x h=>(Cp (Hob.o.2 x h).2).1);have F1:=Aa f1;have F2:=Aa f2;rw[e1,Hoa.o.1]at Hra;rw[e2,Hob.o.1]at Hrb;have Hpl:=Aa (fun(h:¬(a.base=[64]/\b.base=[64]))=>Qgn (S:=Ae xs) (T:=Ae ys) (n:=n) (m:=m) Hsg.o ha hb h);have Hpab:=Aa (fun h1 h2=>(⟨of_decide_eq_true h1,of_decide_eq_true h2⟩:a.base=[64]/\b.base=[64]));have Hpno:=Aa (fun(h:decide (a.base=[64])=false\/decide (b.base=[64])=false)=>show ¬(a.base=[64]/\b.base=[64])from fun e=>by rcases h with h|h<;>simp[e.1,e.2]at h);clear f1 f2 e1 e2;generalize decide (a.base=[64])=pa at *;generalize decide (b.base=[64])=pb at *;obtain⟨xy,hxy⟩:∃xy,(Bv a == Bv b)=xy:=⟨_,rfl⟩
  rw[hxy]at Hpl;go_wp2_with fail;refine(Hra.o _ (Hx.o.below Hstq.o.1)).mono ?_;rintro e w2 ⟨rfl,hb2⟩;have Hst2:=Aa (Hstq.o.below hb2);have Hk2:=Aa (Hkq.o.trans (Eu.of_below (ab:=w0.heap.size) (mv:=.slice A3 n3 c3) hb2));have z0:w2.cell? (w0,0)=some (.slice A1 xs.length c1):=Hst2.o.2.2.1;have z1:w2.cell? (w0,1)=some (.slice A2 ys.length c2):=Hst2.o.2.2.2.1;have hz2:w0.heap.size<w2.heap.size:=Hst2.o.size;have hn2:¬(w0.heap.size=w2.heap.size):=aI;clear hb2;go_wp2_with fail;refine(Hrb.o _ (Hy.o.below (Hst2.o.1.alloc aI _))).mono ?_;rintro e w4 ⟨rfl,hb4⟩;have Hst4:=Aa ((Hst2.o.below ((Am _ _).alloc (Ao _) _)).below hb4);have Hk4:=Aa ((Hk2.o.trans (Eu.of_below (ab:=w0.heap.size) (mv:=.slice A3 n3 c3) ((Am _ _).alloc (Ao _) _))).trans (Eu.of_below (ab:=w0.heap.size) (mv:=.slice A3 n3 c3) hb4));have hz4:w2.heap.size<w4.heap.size:=eS;have n0:w4.cell? (w2,1)=some (.string nm1):=by rw[hb4.cell (p:=⟨w2.heap.size,1,none⟩) aN];simp
  have hn4:¬(w0.heap.size=w4.heap.size):=aI;have hn5:¬(w2.heap.size=w4.heap.size):=aI;have Hwz:=Aa Hk2.o.size;have X9:=@Aa (w4.rangeAt w2 0 [.int .u8 s1,.string nm1,.slice A4 n4 c4]) (Ah (Br w2 [.int .u8 s1,.string nm1,.slice A4 n4 c4] _) aN hb4);clear hb4 z0 z1;cases pa with
  |false=>
   have HF2:=Aa (Hpl.o (Hpno.o (.inl rfl)));cases xy with
   |false=>
    go_wp2_with fail;exact lO
   |true=>cases pb with
    |false=>
     go_wp2_with fail;exact lO
    |true=>
     go_wp2_with fail;exact lO
  |true=>cases pb with
   |false=>
    have HF2:=Aa (Hpl.o (Hpno.o (.inr rfl)));cases xy with
    |false=>
     go_wp2_with fail;exact lO
    |true=>
     go_wp2_with fail;exact lO
   |true=>
    go_wp2_with fail;have hab:=(by first|exact Hpab.o rfl rfl|exact Hpab.o Ab Ab:a.base=[64]/\b.base=[64])
    obtain⟨x,hxo⟩:∃x,oa=some x:=by
     have:=Hoa.o.1;cases oa with
     |none=>cases this
     |some x=>exact⟨x,rfl⟩
    obtain⟨y,hyo⟩:∃y,ob=some y:=by
     have:=Hob.o.1;cases ob with
     |none=>cases this
     |some y=>exact⟨y,rfl⟩
    obtain⟨t,tv⟩:=x;obtain⟨u,uv⟩:=y;obtain⟨g1,g2⟩:=F1.o _ hxo;obtain⟨g3,g4⟩:=F2.o _ hyo;simp only[]at g1 g2 g3 g4;have hxf:=(Hoa.o.2 _ hxo).2;have hyf:=(Hob.o.2 _ hyo).2;have Hxm:=Aa (Cp hxf);have Hym:=Aa (Cp hyf);rw[show t.name=a.name from Hxm.o.2.1]at g2;rw[show u.name=b.name from Hym.o.2.1]at g4;subst g2 g4;have G1:=Aa g1;have G3:=Aa g3
    have HF2:=Aa (show J4 (Ae xs) (Ae ys) (n+1) a b m=if (a.name,b.name)∈m then(true,m)else evT (Ae xs) (Ae ys) (J4 (Ae xs) (Ae ys) n) t u (m++[(a.name,b.name)])from by
     rw[HF.o,if_neg (by rw[hab.1,hab.2];simp[Hsg.o]),if_neg (by rw[hab.1];simp),Hxm.o.2.2,Hym.o.2.2])
    clear g1 g3 hxo hyo hxf hyf hab;obtain⟨W6,hW6⟩:∃W6,W6=(w4.alloc (.cells #[.int .u8 s2,b.name,.slice A5 n5 c5] 90)).alloc (.cells #[a.name,b.name] 202):=⟨_,rfl⟩
    rw[<-hW6];have Hb6:=@Aa (Below w4 w4 W6) (by rw[hW6];exact((Am _ _).alloc (Ao _) _).alloc aN _);have Hst6:=Aa (Hst4.o.below Hb6.o);have Hk6:=Aa (Hk4.o.trans (Eu.of_below (ab:=w0.heap.size) (mv:=.slice A3 n3 c3) Hb6.o));have X9':=Aa (Ah X9.o hz4 Hb6.o);have X11:=@Aa (W6.rangeAt w4 0 [.int .u8 s2,b.name,.slice A5 n5 c5]) (by rw[hW6];exact Ah (Br w4 [.int .u8 s2,b.name,.slice A5 n5 c5] _) (Nat.lt_succ_self _) ((Am _ _).alloc aN _));have p0:W6.cell? (w4,1,0)=a.name:=by rw[hW6];simp[go_sem]
    have p1:W6.cell? (w4,1,1)=b.name:=by rw[hW6];simp[go_sem]
    have hz6:w4.heap.size+1<W6.heap.size:=by rw[hW6];simp
    have Hrow:=Aa (Bx.ownK Hst6.o.2.2.2.2.2.2 aY);have y2':W6.cell? (w0,2)=some (.slice A3 n3 c3):=Hst6.o.2.2.2.2.1;obtain rfl:n3=m.length:=by
     obtain⟨A,c,e,_⟩:=Hrow.o;injection e
    clear hW6 y0 y1 y2 n0;go_loopw [14] (fun i wr=>∃j:Nat,i=.int .i64 j/\j<=m.length/\(∃q,wr=W6.drewN q)/\Hid ((a.name,b.name)∉m.take j)) (fun i _=>m.length - (intOf i).toNat)
    case atStart=>exact⟨0,rfl,ah _,⟨0,rfl⟩,by simp[Hid]⟩
    case round=>
     obtain⟨j,rfl,hj,⟨q6,rfl⟩,hin⟩:=hrel;have j1:(0:Int)<=(j:Int):=aI;by_cases hlt:j<m.length
     ·have j2:(j:Int)<(m.length:Int):=aI;obtain⟨A,c,e3,hra⟩:=Hrow.o;have hA:A3=A:=by injection e3
      have hc:c3=c:=by injection e3
      subst hA hc;clear e3;obtain⟨bb,off,rfl,hbb,hcc⟩:=Bx.elem Qg4 aL hra hlt;have r0:=hcc 0 _ rfl;have r1:=hcc 1 _ rfl;simp only[Nat.add_zero,<-Nat.add_assoc]at r0 r1;have Hts:=Aa (Ch m j hlt);have Hpm:=Aa (af hlt);generalize m[j]=pj at r0 r1 Hts Hpm;clear hra hcc;obtain⟨be,hbe⟩:∃be,decide (pj=(a.name,b.name))=be:=⟨_,rfl⟩
      go_wp2_with fail;refine Gd [83,84,85,86,87,88,89,90,91]
       (fun i v W=>match i with|0=>v=w0.heap.size|1=>v=w0.heap.size|2=>v=(w0,2)|3=>v=.slice (some ⟨bb,off,none⟩) m.length c3|4=>v=.int .i64 j|5=>v=.pointer (some ⟨bb,off+j*2,none⟩)|6=>v=.agg #[pj.1,pj.2]|7=>v=.agg #[a.name,b.name]|8=>v=.bool be|_=>True)
       (fun L U W=>∃q,W=W6.drewN q) (⟨q6+1,rfl⟩) ?_ ?_
      ·repeat (first|exact Ai.nil|(refine Ai.cons ?_ ?_;rotate_left))
       all_goals
        rintro L U W hL hpre HR Hdep K hK;obtain⟨q,rfl⟩:=HR.o;first|(simp[Region.binds]at hpre;done)|simp[Region.binds]at hpre|clear hpre
       iterate 8
        ·exact ii
       ·go_simp;by_cases h1:pj.1=a.name
        ·by_cases h2:pj.2=b.name
         ·obtain rfl:be=true:=by rw[<-hbe];exact aE (Prod.ext h1 h2)
          rw[if_pos h1,if_pos h2];go_simp;exact hK _ _ _ rfl Ab HR.o (by simp[Act.put,hpre,h1,h2])
         obtain rfl:be=false:=by rw[<-hbe];exact aD (fun e=>h2 (by rw[e]))
         rw[if_pos h1,if_neg h2];go_simp;exact hK _ _ _ rfl Ab HR.o (by simp[Act.put,hpre,h1])
        obtain rfl:be=false:=by rw[<-hbe];exact aD (fun e=>h1 (by rw[e]))
        rw[if_neg h1];exact lP
      rintro L U W hL hφ hR;have e8:U 8=.bool be:=hφ 8 aL;simp only[e8];clear hφ;obtain⟨q7,rfl⟩:=hR;have Hbe:=Aa hbe;clear hL hbe;cases be with
      |true=>
       have Hmem:=@Aa ((a.name,b.name)∈m) (by have:=of_decide_eq_true Hbe.o;rw[<-this];exact Hpm.o);have Hfin:=Aa (HF2.o.trans (if_pos Hmem.o));go_wp2_with fail;go_ret;rw[Hfin.o];exact⟨rfl,_,Hst6.o.below (below_drewN (Am _ _) q7),Hk6.o.trans (Eu.of_below (below_drewN (Am _ _) q7))⟩
      |false=>
       have Hnin:=Aa (show (a.name,b.name)∉m.take (j+1)from by
        rw[Hts.o];intro h;rcases ag.1 h with h|h
        ·exact hin.o h
        exact of_decide_eq_false Hbe.o (ar.1 h).symm)
       go_wp2_with fail;go_roundw
       case rel=>exact⟨j+1,by go_num,by omega,⟨q7,rfl⟩,Hnin.o⟩
       case measure=>simp[intOf];omega
     ·have Hnin:=@Aa ((a.name,b.name)∉m) (by have:=hin.o;rwa [av aI]at this);have Hfin:=Aa (HF2.o.trans (if_neg Hnin.o));go_wp2_with fail;obtain⟨W7,hW7⟩:∃W7,W7=(W6.drewN q6).drew:=⟨_,rfl⟩
      have Hb7:=@Aa (Below W6 W6 W7) (by rw[hW7];exact(below_drewN (Am _ _) q6).drew);have Hst7:=Aa (Hst6.o.below Hb7.o);have Hk7:=Aa (Hk6.o.trans (Eu.of_below Hb7.o));have y27:W7.cell? (w0,2)=some (.slice A3 m.length c3):=Hst7.o.2.2.2.2.1;have p07:W7.cell? (w4,1,0)=a.name:=(Hb7.o.cell (p:=⟨w4.heap.size+1,0,none⟩) hz6).trans p0;have p17:W7.cell? (w4,1,1)=b.name:=(Hb7.o.cell (p:=⟨w4.heap.size+1,1,none⟩) hz6).trans p1;have hz7:W6.heap.size<=W7.heap.size:=Hb7.o.size;have X9b:=Aa (Ah X9'.out (show w2.heap.size<W6.heap.size by omega) Hb7.o);have X11b:=Aa (Ah X11.o (show w4.heap.size<W6.heap.size by omega) Hb7.o);have HW7:=Aa hW7;clear y2' p0 p1 hW7;refine Bo [92,93,94,95,96,97,98,99,100,101,999] aP aP aP (fun u=>by dsimp only[Cd,Bu,List.set,ao,Nat.reduceAdd])
       (fun i v W=>match i with|0=>v=w0.heap.size|1=>v=w0.heap.size|2=>v=w0.heap.size|3=>v=(w0,2)|4=>v=.slice A3 m.length c3|5=>v=.agg #[a.name,b.name]|6=>v=.slice (some ⟨W7.heap.size,0,none⟩) 1 1|7=>∃A n c,v=.slice A n c|8=>v=w0.heap.size|9=>v=(w0,2)|_=>True)
       (fun L U W=>(L 6=false->W=W7)/\(L 6=true->L 7=false->W=W7.alloc (.cells ([a.name,b.name]:List Value).toArray 202)) /\
      (L 7=true->L 10=false->W.ownsRow (w0.heap.size+1) 202 2 (U 7) (m.length+1) (m.flatMap Qf++Qf (a.name,b.name))/\W7.grownBy W (Value.slice A3 m.length c3).ownBlock/\((U 7).ownBlock=(Value.slice A3 m.length c3).ownBlock\/∃k,(U 7).ownBlock=some k/\W7.heap.size<=k)) /\
      (L 10=true->∃mv5,Gm w0 (.slice A1 xs.length c1) (.slice A2 ys.length c2) W (m++[(a.name,b.name)]) mv5/\Eu w0.heap.size (.slice A3 m.length c3) W7 W mv5)) (fun _ _=>True) (fun _ _ _ _ _ h=>h) (⟨fun _=>HW7.o.symm,(fun h=>Bool.noConfusion h),(fun h=>Bool.noConfusion h),(fun h=>Bool.noConfusion h)⟩) ?_ ?_
      ·repeat (first|exact Ai.nil|(refine Ai.cons ?_ ?_;rotate_left))
       all_goals
        rintro L U W hL hpre hR hun hdep K hK;have HR:=Aa hR;obtain⟨R1,R2,R3,R4⟩:=HR.o;have Hdep:=Aa hdep;clear hun hdep hR;first|(simp[Region.binds]at hpre;done)|simp[Region.binds]at hpre|clear hpre
       iterate 4
        ·exact ii
       ·have h7:L 7=false:=At Hdep.o 7 4 rfl hL;cases h6:L 6 with
        |false=>
         exact lQ
        |true=>
         obtain rfl:=R2 h6 h7;have y2a:(W7.alloc (.cells ([a.name,b.name]:List Value).toArray 202)).cell? (w0,2)=some (.slice A3 m.length c3):=by rw[World.cell?_alloc_old _ _ _ (show w0.heap.size≠W7.heap.size by omega)];exact y27
         exact lR
       ·have h6:L 6=false:=At Hdep.o 6 5 rfl hL;exact lQ
       ·have h7:L 7=false:=At Hdep.o 7 6 rfl hL;obtain rfl:=R1 hL;go_simp;refine hK _ _ _ rfl Ab ⟨fun h=>by simp at h,fun _ _=>rfl,fun h=>absurd (h7.symm.trans aQ) aL,fun h=>?_⟩ aK;exact absurd ((Hdep.o 10 _ rfl {on:=6,ground:=Ground.phase} aN cC hL).symm.trans aQ) aL
       ·obtain⟨⟨l4,u4⟩,l6,u6⟩:=hpre;obtain rfl:=R2 l6 hL;rw[if_pos cC];refine Fr W7 (.tmp 96) (.tmp 98) 175 rfl (w0.heap.size+1) 202 (.agg #[aa,aa]) 2 32 underlying175 Tryz.infoPair rfl aL (Qf (a.name,b.name)) rfl (by intro y hy;simp[Qf]at hy;rcases hy with rfl|rfl<;>rfl) (.slice A3 m.length c3) m.length (m.flatMap Qf) u4 u6 Hst7.o.2.2.2.2.2.2 aY aI aI ?_;intro v' w' hown hg hwh;obtain⟨A5',n5',c5',rfl⟩:=Ew hown;refine hK _ _ _ ⟨A5',n5',c5',rfl⟩ Ab ⟨fun h=>absurd (l6.symm.trans aQ) aL,fun _ h=>by simp at h,fun _ _=>⟨hown,hg,hwh⟩,fun h=>?_⟩ rfl;exact absurd ((Hdep.o 10 _ rfl {on:=7,ground:=Ground.phase} aN cC hL).symm.trans aQ) aL
       iterate 2
        ·exact ii
       ·obtain⟨l7,A5',n5',c5',u7⟩:L 7=true/\∃A n c,U 7=.slice A n c:=by
         first|exact hpre.1|exact hpre.2.1|exact⟨hpre.1.1,hpre.1.2⟩|exact⟨hpre.2.1.1,hpre.2.1.2⟩
        have hpre6:L 6=true:=by
         cases h6:L 6 with
         |true=>rfl
         |false=>
          have:=At Hdep.o 7 6 rfl h6;rw[l7]at this;cases this
        obtain⟨hown,hg,hwh⟩:=R3 l7 hL;rw[u7]at hown hwh;have hb8:Below (w0.heap.size+1) W7 W:=(Am _ _).grown hg aI (fun k hk=>(Hst7.o.2.2.2.2.2.2.lt k hk).1);have hT8:=An Hst7.o.2.2.2.2.2.1 (show w0.heap.size<w0.heap.size+1 by omega) hb8;have f8:W.frozen? (w0,2)=false:=(by simpa using(hT8 2 aL).2)
        obtain⟨x8,hx8⟩:=Option.isSome_iff_exists.1 ((by simpa using(hT8 2 aL).1:(W.cell? (w0,2)).isSome=true));have HP:=Aa (Gm.push (p:=(a.name,b.name)) Hst7.o hown hg hwh);clear hown hg hwh hb8 hT8 R1 R2 R3 R4;go_simp;refine hK undef _ _ Ab Ab ⟨fun h=>absurd (hpre6.symm.trans aQ) aL,fun _ h=>absurd (l7.symm.trans aQ) aL,fun _ h=>by simp at h,fun _=>⟨_,HP.o⟩⟩ (by simp[Act.put,hpre,u7])
      rintro L U W hL hφ hR;clear hφ;obtain⟨mv5,hst8,hk8⟩:=hR.2.2.2 (hL 10 aL);have x9:=Eu.range hk8 X9b.o (show w2.heap.size<W7.heap.size by omega) (show w2.heap.size≠w0.heap.size by omega) (Hst.o.far _ Hwz.o);have x11:=Eu.range hk8 X11b.o (show w4.heap.size<W7.heap.size by omega) (show w4.heap.size≠w0.heap.size by omega) (Hst.o.far _ (by have:=Hwz.o;omega));have a0:W.cell? (w2,0)=some (.int .u8 s1):=by simpa using Ac x9 0 rfl
      have a1:W.cell? (w2,1)=a.name:=by simpa using Ac x9 1 rfl
      have a2:W.cell? (w2,2)=some (.slice A4 n4 c4):=by simpa using Ac x9 2 rfl
      have d0:W.cell? (w4,0)=some (.int .u8 s2):=by simpa using Ac x11 0 rfl
      have d1:W.cell? (w4,1)=b.name:=by simpa using Ac x11 1 rfl
      have d2:W.cell? (w4,2)=some (.slice A5 n5 c5):=by simpa using Ac x11 2 rfl
      have Hcall:=Ih.o t tv u uv W mv5 Hxm.o.1 Hym.o.1 hst8 Hxm.o.2.2 Hym.o.2.2 Hnin.o;rw[G1.o,G3.o]at Hcall;generalize evT (Ae xs) (Ae ys) (J4 (Ae xs) (Ae ys) n) t u (m++[(a.name,b.name)])=r at *;have Hc:=Aa Hcall;have Hk8:=Aa (Hk7.o.trans hk8);clear hL hR hst8 hk8 x9 x11 Hcall;go_wp2_with fail;refine Hc.o.mono ?_;rintro e w9 ⟨rfl,mv9,hst9,hk9⟩;have Hst9:=Aa hst9;have Hk9:=Aa (Hk8.o.trans hk9);clear hst9 hk9;go_wp2_with fail;go_ret;rw[Hfin.o];exact⟨rfl,mv9,Hst9.o,Hk9.o⟩
end
end Go.Proofs.YtpjijpcemejlnaaGreatDoor
