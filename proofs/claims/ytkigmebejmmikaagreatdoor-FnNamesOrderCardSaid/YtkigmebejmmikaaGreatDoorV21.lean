/- Texts joined. Conditions: as each theorem names them. -/
import Derived.Test.YtkigmebejmmikaaGreatDoorV16
set_option maxRecDepth 100000
set_option maxHeartbeats 32000000
set_option linter.unusedVariables false
set_option linter.unusedSimpArgs false
namespace Go.Proofs.YtkigmebejmmikaaGreatDoor
open Go.RowKit Go.Proofs.Tryz
section
attribute [local go_sem] Qo1 Qof Qnv Qlx ByteArray.mk_append_mk
def txV(o:Option (List UInt8)):Value:=.tuple #[.string ⟨(o.getD []).toArray⟩,.bool o.isSome]
def TxQ(o:Option (List UInt8))(w:World)(e:Ending)(w':World):Prop:=e=.returned (txV o)/\Below w w w'
def Ki:List (Option (List UInt8))->Option (List (List UInt8))
 |[]=>some []
 |none::_=>none
 |some p::l=>(Ki l).map (p :: ·)
theorem Vg:∀(fs:List (List UInt8)),Ki (fs.map some)=some fs
 |[]=>rfl
 |p::fs=>by rw[ax,Ki,Vg fs];rfl
theorem Qap:∀{os:List (Option (List UInt8))},none∈os->Ki os=none
 |none::_,_=>rfl
 |some p::l,h=>by
  rw[Ki,Qap (os:=l) aR];rfl
def Pz(kd:List UInt8):Bool:=decide (kd.take 2=[63,63])
theorem Qiu(kd:List UInt8)(w:World):Calls prog 31 #[kd] w fun e w'=>e=.returned (.bool (Pz kd))/\w'=w:=by
 by_cases h1:1<kd.length
 ·have t1:(1:Int)<(kd.length:Int):=aG;have t2:(2:Int)<=(kd.length:Int):=aG;have t3:(kd.take 2 == [63,63])=Pz kd:=by unfold Pz;by_cases e:kd.take 2=[63,63]<;>simp[e]
  generalize Pz kd=z at *;go_enter func31,ntmps31;go_wp2_with fail;go_ret;exact⟨by first|rfl|rw[t3],rfl⟩
 have t1:¬(1:Int)<(kd.length:Int):=aG;have t3:Pz kd=false:=by
  unfold Pz;rw[decide_eq_false_iff_not];intro e;have:=congrArg List.length e;simp at this;omega
 rw[t3];clear t3 h1;go_enter func31,ntmps31;go_wp2_with fail;exact kL
def nmO(kind text:List UInt8)(os:List (Option (List UInt8)))(R:Option (List UInt8)):Option (List UInt8):=
 if Pz kind=true then none else match Ki os with
 |none=>none
 |some fs=>if kind.head?=some 91 then some (91::(Am 44 fs++[93]))else if kind.head?=some 63 then some (match fs with|[]=>H7|p::_=>p)else if kind.head?=some 64 then R else some text
theorem Qax{n:Nat}(l:List (List UInt8))(h:∀p∈l,p.length<=n):(Am 44 l).length<=l.length*(n+1):=by
 have:∀l:List (List UInt8),(∀p∈l,p.length<=n)->Cq l<=l.length*(n+1):=by
  intro l;induction l with
  |nil=>simp[Cq]
  |cons p l ih=>
   intro h;rw[Cu,List.length_cons,Nat.succ_mul];have:=h p aL;have:=ih fun q hq=>h q (by simp[hq]);omega
 rw[Bg];have:=this l h;omega
theorem Qy(P:Nat->Prop)(b:Nat)(k0:UInt8)(kr text:List UInt8)(tags:List Nat)(kids:List SV)(xv:Value)(hx1:∃A n c,xv=.slice A n c)(w:World)(h:Gx P w b (.mk (k0::kr) text tags kids))(os:List (Option (List UInt8)))(hos:os.length=kids.length)
  (hp:∀p,some p∈os->p.length<=10000) (hkl:kids.length<=20)
  (HK:∀i (hi:i<kids.length) (o:Option (List UInt8)),os[i]?=some o->∀c W,Below w w W->Gx P W c kids[i]->Calls prog 16 #[.agg #[xv],.pointer (some ⟨c,0,none⟩)] W (TxQ o W))
  (R:Option (List UInt8)) (HT:k0=64->∀fs,os=fs.map some->∀A c W,Below w w W->Bh W A fs.length (Ah fs)->Calls prog 33 #[.agg #[xv],b,.slice A fs.length c] W (TxQ R W)):
  Calls prog 16 #[.agg #[xv],b] w (TxQ (nmO (k0::kr) text os R) w):=by
 obtain⟨A9,n9,c9,rfl⟩:=hx1;obtain⟨A1,A2,c1,c2,xs,hbl,_,h0,h1,h2,h3,r1,r2,_,_,rfl,hks⟩:=h.open_;have hxl:xs.length=os.length:=by rw[hos,List.length_map]
 have hx20:xs.length<=20:=by rw[List.length_map]at hkl;exact hkl
 obtain⟨w1,hw1⟩:∃w1,w1=w.alloc (.cells #[.slice A9 n9 c9] 35):=⟨_,rfl⟩
 have hb1:Below w w w1:=eO;have y0:w1.cell? (w,0)=some (.slice A9 n9 c9):=cO;have l0:w.heap.size<w1.heap.size:=cO;have g0:=h0;have hbn:¬(b=w.heap.size):=aG;replace h0:=(hb1.cell (p:=⟨b,0,none⟩) hbl).trans h0
 replace h1:=(hb1.cell (p:=⟨b,1,none⟩) hbl).trans h1
 replace h3:=(hb1.cell (p:=⟨b,3,none⟩) hbl).trans h3
 have hbl1:b<w1.heap.size:=aG;have Hb1:=Aa hb1;have Hw1:=Aa hw1;have Hr2:=Aa (r2.below hb1)
 have HK:=Aa (fun i (hi:i<xs.length) (o:Option (List UInt8)) (ho:os[i]?=some o) (W:World) (hW:Below w1 w1 W)=>HK i eI o ho (xs[i]'hi).1 W (hb1.trans (hW.mono hb1.size)) (by
  have:=(hks (xs[i]'hi) (ae hi)).after (hb1.trans (hW.mono hb1.size));simpa using this))
 have HT:=Aa HT;have Hp:=Aa hp;clear h hw1 hb1 h2 r1 r2 hks hos hp hkl;have Hsn:=Aa (fun W=>Qiu (k0::kr) W);cases hn:Pz (k0::kr)with
 |true=>
  rw[hn]at Hsn;have HO:=Aa (show nmO (k0::kr) text os R=none by unfold nmO;rw[if_pos hn]);clear hn;go_enter func16,ntmps16;go_wp2_with fail;generalize hwg:World.alloc w _=wg;obtain rfl:w1=wg:=Hw1.o.trans hwg;clear hwg g0 hbn;refine(Hsn.o _).mono ?_;rintro e w2 ⟨rfl,rfl⟩;go_wp2_with fail;go_ret2;exact⟨by rw[HO.o];rfl,Hb1.o⟩
 |false=>
  rw[hn]at Hsn;have HO:=@Aa (nmO (k0::kr) text os R=_) (if_neg (by rw[hn];decide));clear hn;go_enter func16,ntmps16;go_wp2_with fail;generalize hwg:World.alloc w _=wg;obtain rfl:w1=wg:=Hw1.o.trans hwg;clear hwg g0 hbn;refine(Hsn.o _).mono ?_;rintro e w2 ⟨rfl,rfl⟩;go_wp2_with fail;generalize hw3:World.alloc w2 _=w3;have hb3:Below w2 w2 w3:=gJ;have ho3:w3.ownsRow w2 9 1 (.slice (w2,0) 0 0) 0 (Ah []):=by rw[<-hw3];exact Pc w2 _ _ (Ar _)
  have Hb3:=Aa hb3;have Ho3:=Aa ho3;clear hw3 hb3 ho3 Hsn;go_loopw [7,6,8,9] (fun i u y z wr=>∃(m:Nat) (A3:Option Addr) (n3 q3:Nat) (fs:List (List UInt8)),i=.int .i64 m/\u=.slice A3 n3 q3/\m<=xs.length/\Hid (wr.ownsRow w2 9 1 (.slice A3 n3 q3) m (Ah fs))/\Hid (os.take m=fs.map some)/\Hid (Below w2 w2 wr)) (fun i _ _ _ _=>xs.length - (intOf i).toNat)
  case atStart=>exact⟨0,_,0,0,[],rfl,rfl,ag _,Ho3.o,rfl,Hb3.o⟩
  case round=>
   obtain⟨m,A3,n3,q3,fs,rfl,rfl,hm,Hog,Hfs,Hbr⟩:=hrel;have m1:(0:Int)<=(m:Int):=aG;have hsz:w2.heap.size<=wr.heap.size:=Hbr.o.size;have e0:=(Hbr.o.cell (p:=⟨b,0,none⟩) hbl1).trans h0;have e1:=(Hbr.o.cell (p:=⟨b,1,none⟩) hbl1).trans h1;have e3:=(Hbr.o.cell (p:=⟨b,3,none⟩) hbl1).trans h3;have ey:=(Hbr.o.cell (p:=⟨w.heap.size,0,none⟩) l0).trans y0;have lb:b<wr.heap.size:=aG;have lw:w.heap.size<wr.heap.size:=aG;by_cases hlt:m<xs.length
   ·have m2:(m:Int)<(xs.length:Int):=aG;obtain⟨b6,o6,rfl,hb6,hc6⟩:=(Hr2.o.below Hbr.o).at_ hlt;replace hc6:wr.cell? ⟨b6,o6+m,none⟩=some (.pointer (some ⟨xs[m].1,0,none⟩)):=by rw[hc6,So hlt]
    have hml:m<os.length:=aG;have HX:=Aa (fun W (hW:Below wr wr W)=>HK.o m hlt _ (List.getElem?_eq_getElem hml) W (Hbr.o.trans (hW.mono hsz)));have Hts:=Aa (Bx os m hml);have Hmem:=Aa (ae hml);generalize os[m]=om at *;generalize xs[m].1=bm at *;unfold TxQ txV at HX;cases om with
    |none=>
     have HO2:=Aa (HO.o.trans (by rw[Qap Hmem.o]));simp only[Option.getD_none,Option.isSome_none]at HX;go_wp2_with fail;refine rgB ?_;iterate 8 refine sq ?_
     refine sqC HX.o ?_;iterate 5 refine sq ?_
     refine Xi fun w5 HB=>?_;have Hb5:=Aa (Hb1.o.trans ((Hbr.o.trans (HB.o.mono hsz)).mono Hb1.o.size));clear HB e0 e1 e3 ey hc6 HX;go_wp2_with fail;go_ret2;exact⟨by rw[HO2.o];rfl,Hb5.o⟩
    |some p=>
     simp only[Option.getD_some,Option.isSome_some]at HX;go_wp2_with fail;refine rgB ?_;iterate 8 refine sq ?_
     refine sqC HX.o ?_;iterate 5 refine sq ?_
     refine Xi fun w5 HB=>?_;have Hb5:=Aa HB.o;have Ho5:=Aa (Ba Hog.o HB.o);have hs5:w2.heap.size<=w5.heap.size:=ad hsz HB.o.size;clear HB e0 e1 e3 ey hc6 HX;go_wp2_with (at_builtin;refine J2 _ rfl _ _ 63 rfl w2 9 aa 16 underlying63 Ej rfl w5 (.string ⟨p.toArray⟩) rfl rfl (.slice A3 n3 q3) m (Ah fs) rfl rfl Ho5.o aU aG hs5 ?_;intro v' w6 hown6 hb6;obtain⟨A5,n5,c5,rfl⟩:=Gm hown6;have Ho:=Aa hown6;have Hb6:=Aa hb6;clear hown6 hb6)
     go_roundw
     case rel=>exact⟨m+1,A5,n5,c5,fs++[p],by go_num,rfl,by omega,(by rw[Jn];exact Ho.o),(by show _=_;rw[Hts.o,Hfs.o];simp),(Hbr.o.trans (Hb5.o.mono hsz)).trans Hb6.o⟩
     case measure=>simp[intOf];omega
   ·obtain rfl:m=xs.length:=aG;have hfs:os=fs.map some:=by
     have:=Hfs.o;rwa [ar aG]at this
    have hfl:fs.length=xs.length:=by rw[hxl,hfs,List.length_map]
    have hpl:∀p∈fs,p.length<=10000:=fun p hp=>Hp.o p (by rw[hfs];exact aw.2 ⟨p,hp,rfl⟩);have hjl:=Qax fs hpl;rw[hfl]at hjl;have hown6:=Hog.o;obtain⟨A6,c6,e6,hr6⟩:=Bh.own hown6;injection e6 with e7 e8 e9;subst e7 e8 e9;have HO:=Aa (HO.o.trans (by rw[hfs,Vg]));simp only[List.head?_cons,aj]at HO;have HJ:=Aa (fun W (hW:Below wr wr W)=>Qbl A3 q3 fs W (by rw[hfl];exact hr6.below hW) aG hpl);rw[hfl]at HJ;have Hr6:=Aa hr6;have Hf:=Aa hfs;have Hfl:=Aa hfl;have Hbw:=Aa (Hb1.o.trans (Hbr.o.mono Hb1.o.size));clear hfs hpl hown6 hr6 Hog Hfs HK Hp hfl;obtain⟨kd,hkd⟩:∃kd,kd=k0::kr:=⟨_,rfl⟩
    rw[<-hkd]at e0;have hl0:0<kd.length:=by rw[hkd];simp
    have hz0:kd[0]=k0:=by simp[hkd]
    clear hkd h0 h1 h3 hxl hlt hm;by_cases h91:k0=91
    ·have t1:((kd[0].toNat:Int) == 91)=true:=by rw[hz0];exact Bs h91
     have HO2:=Aa (HO.o.trans (if_pos h91));have z9:(Am 44 fs).length<=300000:=aG;clear h91 HO HT hz0;go_wp2_with fail;refine(HJ.o _ (Aw _ _)).mono ?_;rintro e w7 ⟨rfl,rfl⟩;go_wp2_with fail;go_ret2;exact m7
    have t1:((kd[0].toNat:Int) == 91)=false:=by rw[hz0];exact At h91
    have HO:=Aa (HO.o.trans (if_neg h91));clear h91 HJ;by_cases h63:k0=63
    ·have t2:((kd[0].toNat:Int) == 63)=true:=by rw[hz0];exact Bs h63
     have HO2:=Aa (HO.o.trans (if_pos h63));clear h63 HO HT hz0;cases fs with
     |nil=>
      have z0:xs.length=0:=Hfl.o.symm;have z1:(xs.length:Int)=0:=aG;go_wp2_with fail;go_ret2;exact m7
     |cons p fs=>
      have z0:0<xs.length:=by rw[<-Hfl.o];simp
      have z1:¬(xs.length:Int)=0:=aG;have z2:(0:Int)<(xs.length:Int):=aG;have z3:((xs.length:Int) == 0)=false:=by simpa using z1
      obtain⟨b8,o8,rfl,hb8,hc8⟩:=Hr6.o.at_ z0;simp[Ah]at hc8;go_wp2_with fail;go_ret2;exact m7
    have t2:((kd[0].toNat:Int) == 63)=false:=by rw[hz0];exact At h63
    have HO:=Aa (HO.o.trans (if_neg h63));clear h63;by_cases h64:k0=64
    ·have t3:((kd[0].toNat:Int) == 64)=true:=by rw[hz0];exact Bs h64
     have HO2:=Aa (HO.o.trans (if_pos h64));have HX:=Aa (HT.o h64 fs Hf.o A3 q3 wr Hbw.o (by rw[Hfl.o];exact Hr6.o));unfold TxQ txV at HX;rw[Hfl.o]at HX;clear h64 HO HT hz0;go_wp2_with fail;refine HX.o.mono ?_;rintro e w7 ⟨rfl,hb7⟩;have Hb7:=Aa (Hbw.o.trans (hb7.mono Hbw.o.size));clear hb7;go_wp2_with fail;go_ret2;exact⟨by rw[HO2.o];rfl,Hb7.o⟩
    have t3:((kd[0].toNat:Int) == 64)=false:=by rw[hz0];exact At h64
    have HO2:=Aa (HO.o.trans (if_neg h64));clear h64 HO HT hz0;go_wp2_with fail;go_ret2;exact m7
def tyO(text:List UInt8)(nms fs:List (List UInt8)):List UInt8:=if text=[69]then 34::(nms.headD []++[34])else 123::(Am 44 ((Gg (·.1) (nms.zip fs)).map fun p=>p.1++58::p.2)++[125])
def Qbv(ga gb n:Nat)(ls bs:List (List UInt8))(W:World):Prop:=ga≠gb/\gb<W.heap.size/\Bh W (ga,0) n (Ah ls)/\Bh W (gb,0) n (Ah bs)/\∀j,j<n->W.frozen? ⟨gb,j,none⟩=false
theorem Zb{W:World}{g n:Nat}{l:List (List UInt8)}(h:Bh W (g,0) n (Ah l)){j:Nat}(hj:j<l.length):W.cell? ⟨g,j,none⟩=some (.string ⟨l[j].toArray⟩):=by
 have hn:=h.1;simp[Ah]at hn;obtain⟨b,o,e,_,hc⟩:=h.2.2 aG;injection e with e;injection e with e1 e2;subst e1 e2;have:=hc j (.string ⟨l[j].toArray⟩) (by simp[Ah,hj]);simpa using this
theorem Qbv.set{ga gb n:Nat}{ls bs:List (List UInt8)}{W:World}(h:Qbv ga gb n ls bs W){m:Nat}(hm:m<n)(x:List UInt8):Qbv ga gb n ls (bs.set m x) (W.setCell ⟨gb,m,none⟩ x):=by
 obtain⟨hne,hl,ha,hb,hf⟩:=h;have hbl:bs.length=n:=by have:=hb.1;simpa [Ah]using this
 refine⟨hne,by simpa using hl,⟨ha.1,ha.2.1,fun h0=>?_⟩,⟨by simpa [Ah]using hb.1,hb.2.1,fun h0=>⟨gb,0,rfl,by simpa using hl,fun j u hj=>?_⟩⟩,fun j hj=>by rw[World.frozen?_setCell];exact hf j hj⟩
 ·obtain⟨b,o,e,hlt,hc⟩:=ha.2.2 h0;injection e with e;injection e with e1 e2;subst e1 e2;refine⟨_,_,rfl,by simpa using hlt,fun j u hj=>?_⟩;rw[World.cell?_setCell_other _ _ _ _ gp];exact hc j u hj
 have hj':j<bs.length:=by
  have:=(List.getElem?_eq_some_iff.1 hj).1;simpa [Ah]using this
 have hcell:=Zb hb hj';rw[am];by_cases e:j=m
 ·subst e;rw[World.cell?_setCell_same _ _ _ hcell];have:(Ah (bs.set j x))[j]?=x:=by simp[Ah,hj']
  rw[hj]at this;rw[this]
 rw[World.cell?_setCell_other _ _ _ _ (by intro e2;injection e2 with _ e2;omega),hcell];have:(Ah (bs.set m x))[j]?=some (.string ⟨bs[j].toArray⟩):=by simp[Ah,hj',List.getElem_set,Ne.symm e]
 rw[hj]at this;rw[this]
theorem Qbv.below{ga gb n:Nat}{ls bs:List (List UInt8)}{W W':World}(h:Qbv ga gb n ls bs W)(hb:Below W W W'):Qbv ga gb n ls bs W':=by
 obtain⟨hne,hl,ha,hb2,hf⟩:=h;refine⟨hne,ac hl hb.size,ha.below hb,hb2.below hb,fun j hj=>?_⟩;have e:W'.heap[gb]?=W.heap[gb]?:=hb.block gb hl;have:=hf j hj;simp only[World.frozen?,e]at *;exact this
theorem Qef{B:Nat}{W:World}{g n c:Nat}{xs:List (List UInt8)}(h:P1 B W g n c xs):g<W.heap.size/\∀j,j<n->W.frozen? ⟨g,j,none⟩=false:=by
 refine⟨(h.lt g rfl).2,fun j hj=>?_⟩;rcases h.2 with⟨e,_⟩|⟨g2,cap,cur,e,hb,hg,_⟩
 ·cases e
 injection e with e1 e2 e3;injection e1 with e1;injection e1 with e1;subst e1;simp[World.frozen?,hg]
def Tw(ps:List (List UInt8 × List UInt8))(m:Nat):List (List UInt8):=(ps.take m).map (fun p=>p.1++58::p.2)++(ps.drop m).map (·.2)
theorem Qc5(ps:List (List UInt8 × List UInt8))(m:Nat):(Tw ps m).length=ps.length:=by simp[Tw];omega
theorem Qkf(ps:List (List UInt8 × List UInt8))(m:Nat)(hm:m<ps.length):(Tw ps m)[m]'(by rw[Qc5];exact hm)=ps[m].2:=by
 have h1:((ps.take m).map fun p=>p.1++58::p.2).length=m:=aO;unfold Tw;rw[List.getElem_append_right (by rw[h1];exact Ar _)];simp only[h1,Nat.sub_self,List.getElem_map,List.getElem_drop,Nat.add_zero]
theorem Qlt(ps:List (List UInt8 × List UInt8))(m:Nat)(hm:m<ps.length):(Tw ps m).set m (ps[m].1++58::ps[m].2)=Tw ps (m+1):=by
 have h1:((ps.take m).map fun p=>p.1++58::p.2).length=m:=aO;unfold Tw;rw[Bx ps m hm,List.drop_eq_getElem_cons hm,List.set_append,if_neg (by rw[h1];omega),h1,Nat.sub_self,ax,List.set_cons_zero,ay,List.append_assoc];rfl
theorem Qag(P:Nat->Prop)(b:Nat)(k:Kd)(hk:Ch k)(text:List UInt8)(tags:List Nat)(kids:List SV)(xv:Value)(xs:List (Ty × Value))(w:World)(hsc:G8 w xv xs)(h:Gx P w b (.mk (Bt k) text tags kids))(t:Ty)(tv:Value)(hrx:J3 xs k=some (t,tv))(hfd:Ef w tv t.fields)
  (fds:List Fd) (hl:tags=fds.map (·.tag)) (hft:∀f∈fds,Bj t.fields f.tag=some f/\f.tag<=1000/\f.name.length<=3) (hfew:fds.length<=20) (fs:List (List UInt8)) (hfs:text≠[69]->fs.length=fds.length) (h69:text=[69]->0<fds.length) (hf1:∀p∈fs,p.length<=9000)
  (A:Option Addr) (c:Nat) (hrow:Bh w A fs.length (Ah fs)):
  Calls prog 33 #[.agg #[xv],b,.slice A fs.length c] w (TxQ (some (tyO text (fds.map (·.name)) fs)) w):=by
 have hsc':=hsc;obtain⟨A9,c9,rfl,_⟩:=hsc';obtain⟨A1,A2,c1,c2,ys,hbl,_,h0,h1,h2,_,r1,_⟩:=h.open_;obtain⟨A5,c5,rfl,hl5,hr5⟩:=id hfd;have hrx2:J3 xs k=some (t,.slice A5 t.fields.length c5):=hrx;have hlen:tags.length=fds.length:=by rw[hl,List.length_map]
 rw[hlen]at h2 r1;rw[hl]at r1;obtain⟨w1,hw1⟩:∃w1,w1=w.alloc (.cells #[.slice A9 xs.length c9] 35):=⟨_,rfl⟩
 have hb1:Below w w w1:=eO;have y0:w1.cell? (w,0)=some (.slice A9 xs.length c9):=cO;have l0:w.heap.size<w1.heap.size:=cO;have x0:=(hb1.cell (p:=⟨b,0,none⟩) hbl).trans h0;have x1:=(hb1.cell (p:=⟨b,1,none⟩) hbl).trans h1;have x2:=(hb1.cell (p:=⟨b,2,none⟩) hbl).trans h2;have lb:b<w1.heap.size:=aG;have HR:=Aa (fun W (hW:Below w1 w1 W)=>Gf _ xs k W ((hsc.below hb1).below hW) hk);rw[hrx2]at HR;unfold T6 Rm at HR;have Hw1:=Aa hw1;have Hb1:=Aa hb1;have Hr1:=Aa (r1.below hb1);have Hrow:=Aa (hrow.below hb1);have Hfd:=Aa (hfd.below hb1);have Hft:=Aa hft;have Hfs:=Aa hfs;have Hf1:=Aa hf1;have H69:=Aa h69;clear hw1 hb1 r1 hrow hfd hft hfs hf1 h69 hsc h h0 h1 h2 hrx hrx2 hl hlen hbl hr5;generalize Bt k=kb at *;go_enter func33,ntmps33;go_wp2_with fail;generalize hwg:World.alloc w _=wg;obtain rfl:w1=wg:=Hw1.o.trans hwg;clear hwg;refine rgF (fun l u W=>Ky w1 [.int .u8 (t.sort.toNat:Int),t.name,.slice A5 t.fields.length c5] (l 10) (l 11) (u 10) W) (El w1) (fun _ _ _ h=>G9 h.1) Ky.start ?_;iterate 6 refine sq ?_
 refine sqB (fun _ _ _ h=>h.1) (fun _ _ _ _ h hb=>h.below hb) HR.o ?_;iterate 3 refine sq ?_
 refine Ga (fun _=>True) (by
  intro l u W hl hp hF hG hi K hK;have h:Ky w1 [.int .u8 (t.sort.toNat:Int),t.name,.slice A5 t.fields.length c5] (l 10) (l 11) (u 10) W:=hF.o;rw[hl]at h;have Hh:=Aa (h.alloc [.int .u8 0,aa,.slice none 0 0] rfl 95);clear h hp hi hG;go_simp;exact hK _ _ _ Ac Hh.o rfl) ?_
 refine Ga (fun _=>True) (by
  intro l u W hl hp hF hG hi K hK;have h:Ky w1 [.int .u8 (t.sort.toNat:Int),t.name,.slice A5 t.fields.length c5] (l 10) (l 11) (u 10) W:=hF.o;simp[Region.binds,Cg]at hp;obtain⟨b9,e9,_,_,h9,_⟩:=h.2.2 bc;simp only[Region.wanted,if_true];refine wp_store_mid 95 _ _ rfl b9 0 ([.int .u8 (t.sort.toNat:Int),t.name,.slice A5 t.fields.length c5]:List Value).toArray (by simp[e9];rfl) gE h9 aM bB ?_;exact hK undef _ _ Ac (h.store bc e9) rfl) ?_
 refine sq ?_;intro l u W hl _ hR;have hR:Ky w1 [.int .u8 (t.sort.toNat:Int),t.name,.slice A5 t.fields.length c5] (l 10) (l 11) (u 10) W:=hR;obtain⟨b9,e9,hb9,hl9,_,hrg⟩:=hR.2.2 (hl 10 aJ);have f0:W.cell? (b9,0)=some (.int .u8 (t.sort.toNat:Int)):=by have:=Ab (hrg (hl 11 aJ)) 0 rfl;simpa using this
 have f1:W.cell? (b9,1)=t.name:=by have:=Ab (hrg (hl 11 aJ)) 1 rfl;simpa using this
 have f2:W.cell? (b9,2)=some (.slice A5 t.fields.length c5):=by have:=Ab (hrg (hl 11 aJ)) 2 rfl;simpa using this
 have Hbw:=Aa hR.1;simp only[e9];replace x1:=(hR.1.cell (p:=⟨b,1,none⟩) lb).trans x1
 replace x2:=(hR.1.cell (p:=⟨b,2,none⟩) lb).trans x2
 have lbW:b<W.heap.size:=ac lb hR.1.size;clear hl hR e9 hrg HR x0 y0;go_wp2_with fail;generalize hw3:World.alloc W _=w3;have hb3:Below W W w3:=gJ;have ho3:w3.ownsRow W 9 1 (.slice (W,0) 0 0) 0 (Ah []):=by rw[<-hw3];exact Pc W _ _ (Ar _)
 have Hb3:=Aa hb3;have Ho3:=Aa ho3;clear hw3 hb3 ho3;go_loopw [11,10,12,13] (fun i u y z wr=>∃(m:Nat) (A3:Option Addr) (n3 q3:Nat),i=.int .i64 m/\u=.slice A3 n3 q3/\m<=fds.length/\Hid (wr.ownsRow W 9 1 (.slice A3 n3 q3) m (Ah ((fds.take m).map (·.name))))/\Hid (Below W W wr)) (fun i _ _ _ _=>fds.length - (intOf i).toNat)
 case atStart=>exact⟨0,_,0,0,rfl,rfl,ag _,Ho3.o,Hb3.o⟩
 case round=>
  obtain⟨m,A3,n3,q3,rfl,rfl,hm,Hog,Hbr⟩:=hrel;have m1:(0:Int)<=(m:Int):=aG;have hsz:W.heap.size<=wr.heap.size:=Hbr.o.size;have e1:=(Hbr.o.cell (p:=⟨b,1,none⟩) lbW).trans x1;have e2:=(Hbr.o.cell (p:=⟨b,2,none⟩) lbW).trans x2;have lbr:b<wr.heap.size:=aG;have Hbr1:=Aa (Hbw.o.trans (Hbr.o.mono Hbw.o.size));by_cases hlt:m<fds.length
  ·have m2:(m:Int)<(fds.length:Int):=aG;have j0:=(Hbr.o.cell (p:=⟨b9,0,none⟩) hl9).trans f0;have j1:=(Hbr.o.cell (p:=⟨b9,1,none⟩) hl9).trans f1;have j2:=(Hbr.o.cell (p:=⟨b9,2,none⟩) hl9).trans f2;have l9r:b9<wr.heap.size:=aG;obtain⟨b6,o6,rfl,hb6,hc6⟩:=(Hr1.o.below Hbr1.o).at_ hlt;replace hc6:wr.cell? ⟨b6,o6+m,none⟩=some (.int .i64 (fds[m].tag:Int)):=by simpa [De]using hc6
   obtain⟨hft1,hft2,hft3⟩:=Hft.o fds[m] (ae hlt);have HX:=Aa (fun W' (hW:Below wr wr W')=>Yv (.int .u8 (t.sort.toNat:Int)) t.name (.slice A5 t.fields.length c5) t.fields fds[m].tag W' (Hfd.o.below (Hbr1.o.trans (hW.mono Hbr1.o.size))) aG);rw[hft1]at HX;unfold sfR at HX;have Hsn:=Aa (show (fds.take (m+1)).map (·.name)=(fds.take m).map (·.name)++[fds[m].name]by rw[Bx fds m hlt,ay];rfl);clear hft1 hft2;generalize fds[m]=f at *;go_wp2_with fail;refine rgF (fun l u W=>Ky wr (Xh f) (l 12) (l 13) (u 12) W) (El wr) (fun _ _ _ h=>G9 h.1) Ky.start ?_;iterate 8 refine sq ?_
   refine sqB (fun _ _ _ h=>h.1) (fun _ _ _ _ h hb=>h.below hb) HX.o ?_;iterate 3 refine sq ?_
   refine Ga (fun _=>True) (by
    intro l u W hl hp hF hG hi K hK;have h:Ky wr (Xh f) (l 12) (l 13) (u 12) W:=hF.o;rw[hl]at h;have Hh:=Aa (h.alloc [.int .i64 0,aa,aa,aa] rfl 118);clear h hp hi hG;go_simp;exact hK _ _ _ Ac Hh.o rfl) ?_
   refine Ga (fun _=>True) (by
    intro l u W hl hp hF hG hi K hK;have h:Ky wr (Xh f) (l 12) (l 13) (u 12) W:=hF.o;simp[Region.binds,Cg]at hp;obtain⟨b9,e9,_,_,h9,_⟩:=h.2.2 bc;simp only[Region.wanted,if_true];unfold sfV at hp;refine wp_store_mid 118 _ _ rfl b9 0 (Xh f).toArray (by simp[e9];rfl) gE h9 aM (by simp[Xh,Value.oneCell']) ?_;exact hK undef _ _ Ac (h.store bc e9) rfl) ?_
   refine sq ?_;intro l u W6 hl _ hR;have hR:Ky wr (Xh f) (l 12) (l 13) (u 12) W6:=hR;obtain⟨b8,e8,hb8,hl8,_,hrg⟩:=hR.2.2 (hl 12 aJ);have q1:W6.cell? (b8,1)=f.name:=by have:=Ab (hrg (hl 13 aJ)) 1 rfl;simpa using this
   have Ho4:=Aa (Ba Hog.o hR.1);have Hb4:=Aa (Hbr.o.trans (hR.1.mono hsz));have hs4:W.heap.size<=W6.heap.size:=ad hsz hR.1.size;simp only[e8];clear hl hR e8 hrg j0 j1 j2 hc6 e1 e2 HX;go_wp2_with (at_builtin;refine J2 _ rfl _ _ 63 rfl W 9 aa 16 underlying63 Ej rfl W6 f.name rfl rfl (.slice A3 n3 q3) m (Ah ((fds.take m).map (·.name))) rfl rfl Ho4.o aU aG hs4 ?_;intro v' w5 hown5 hb5;obtain⟨A7,n7,c7,rfl⟩:=Gm hown5;have Ho:=Aa hown5;have Hb5:=Aa (Hb4.o.trans hb5);clear hown5 hb5)
   go_roundw
   case rel=>exact⟨m+1,A7,n7,c7,by go_num,rfl,by omega,(by rw[Hsn.o,Jn];exact Ho.o),Hb5.o⟩
   case measure=>simp[intOf];omega
  ·obtain rfl:m=fds.length:=aG;have hown6:=Hog.o;rw[List.take_length]at hown6;obtain⟨A6,c6,e6,hr6⟩:=Bh.own hown6;injection e6 with e7 e8 e9';subst e7 e8 e9';have Hr6:=Aa hr6;have Hbr2:=Aa (Hb1.o.trans (Hbr1.o.mono Hb1.o.size));clear hown6 hr6 hlt hm;by_cases h69:text=[69]
   ·have t1:(text == [69])=true:=by simp[h69]
    have z0:=H69.o h69;have z1:(0:Int)<(fds.length:Int):=aG;obtain⟨b8,o8,rfl,hb8,hc8⟩:=Hr6.o.at_ z0;replace hc8:wr.cell? ⟨b8,o8,none⟩=some (.string ⟨(fds[0]).name.toArray⟩):=by simpa [Ah]using hc8
    have nl:=(Hft.o fds[0] (ae z0)).2.2
    have HO2:=Aa (show tyO text (fds.map (·.name)) fs=(34::((fds[0]).name++[34]):List UInt8)from by
     unfold tyO;rw[if_pos h69];cases fds with
     |nil=>simp at z0
     |cons f fr=>rfl)
    clear h69;generalize (fds[0]).name=nm at *;go_wp2_with fail;go_ret2;exact⟨by rw[HO2.o];rfl,Hbr2.o⟩
   have t1:(text == [69])=false:=by simp[h69]
   have hfl:=Hfs.o h69;have HO2:=@Aa (tyO text (fds.map (·.name)) fs=123::(Am 44 ((Gg (·.1) ((fds.map (·.name)).zip fs)).map fun p=>p.1++58::p.2)++[125])) (if_neg h69);have HS:=Aa (fun W (hW:Below wr wr W)=>Qin A3 A fds.length q3 c (fds.map (·.name)) fs W (Hr6.o.below hW) (by have:=(Hrow.o.below (Hbr1.o.trans (hW.mono Hbr1.o.size)));rw[hfl]at this;exact this) aG)
   have Hps:=Aa (show (Gg (·.1) ((fds.map (·.name)).zip fs)).length=fds.length/\∀p∈Gg (·.1) ((fds.map (·.name)).zip fs),p.1.length<=3/\p.2.length<=9000 by
    refine⟨by rw[(Je _ _).length_eq];simp[hfl],fun p hp=>?_⟩;have:=(Je _ _).mem_iff.1 hp;obtain⟨p1,p2⟩:=p;have h1:=List.of_mem_zip this;obtain⟨f,hf,hfe⟩:=aw.1 h1.1;exact⟨by show p1.length<=3;rw[<-hfe];exact(Hft.o f hf).2.2,Hf1.o _ h1.2⟩)
   rw[hfl];clear h69 hfl;generalize Gg (·.1) ((fds.map (·.name)).zip fs)=ps at *;go_wp2_with fail;refine(HS.o _ (Aw _ _)).mono ?_;rintro e w7 ⟨ga,ca,gb,cb,rfl,hoa,hob,hne,hb7⟩;obtain⟨A7,c7,e7,hra⟩:=Bh.own hoa;injection e7 with e71 e72 e73;obtain⟨A8,c8,e8,hrb⟩:=Bh.own hob;injection e8 with e81 e82 e83;subst e71 e81;have hgb:=(hob.lt gb rfl).1;have HT:=@Aa (Qbv ga gb fds.length (ps.map (·.1)) (Tw ps 0) w7) ⟨hne,(Qef hob).1,hra,by simpa [Tw]using hrb,(Qef hob).2⟩;have Hb7:=Aa hb7;clear hoa hob hra hrb hb7 e72 e73 e82 e83 HS;go_wp2_with fail;obtain⟨wo,rfl⟩:∃wo:World,wo=wr:=⟨_,rfl⟩
   go_loopw [16] (fun i w8=>∃(m:Nat),i=.int .i64 m/\m<=fds.length/\Hid (Qbv ga gb fds.length (ps.map (·.1)) (Tw ps m) w8)/\Hid (Below wo wo w8)) (fun i _=>fds.length - (intOf i).toNat)
   case atStart=>exact⟨0,rfl,ag _,HT.o,Hb7.o⟩
   case round=>
    obtain⟨m,rfl,hm,Ht,Hbr8⟩:=hrel;have m1:(0:Int)<=(m:Int):=aG;by_cases hlt:m<fds.length
    ·have m2:(m:Int)<(fds.length:Int):=aG;have hmp:m<ps.length:=by rw[Hps.o.1];exact hlt
     have ca7:wr.cell? ⟨ga,m,none⟩=some (.string ⟨(ps[m]).1.toArray⟩):=by
      have:=Zb Ht.o.2.2.1 (j:=m) (by rw[List.length_map];exact hmp);simpa using this
     have cb7:wr.cell? ⟨gb,m,none⟩=some (.string ⟨(ps[m]).2.toArray⟩):=by
      have:=Zb Ht.o.2.2.2.1 (j:=m) (by rw[Qc5];exact hmp);rwa [Qkf ps m hmp]at this
     have cf7:wr.frozen? ⟨gb,m,none⟩=false:=Ht.o.2.2.2.2 m hlt;have lb7:gb<wr.heap.size:=Ht.o.2.1;have HTs:=Aa (fun q=>(Qlt ps m hmp ▸ (Ht.o.below (below_drewN (Aw _ wr) q)).set hlt ((ps[m]).1++58::(ps[m]).2):Qbv ga gb fds.length (ps.map (·.1)) (Tw ps (m+1)) ((wr.drewN q).setCell ⟨gb,m,none⟩ (.string ⟨((ps[m]).1++58::(ps[m]).2).toArray⟩))));have hpm:=Hps.o.2 ps[m] (ae hmp);generalize ps[m]=pm at *;clear hmp;obtain⟨pa,pb⟩:=pm;simp only at ca7 cb7 HTs hpm;have hne':¬ga=gb:=hne;have z1:¬(9223372036854775807<pa.length+1):=aG;have z2:¬(9223372036854775807<pa.length+1+pb.length):=aG;have z3:¬(9223372036854775807<pa.length+(pb.length+1)):=aG;have z4:¬(9223372036854775807<pa.length+(1+pb.length)):=aG;go_wp2_with fail
     refine rgF (fun l u W'=>(l 13=true->l 11=true)/\(l 13=false->∃q,W'=wr.drewN q)/\(l 13=true->∃q,W'=(wr.drewN q).setCell ⟨gb,m,none⟩ (.string ⟨(pa++58::pb).toArray⟩))) (fun W'=>W'.cell? ⟨ga,m,none⟩=pa) (fun l u W' h=>by
      cases h13:l 13 with
      |false=>obtain⟨q,rfl⟩:=h.2.1 h13;exact ca7
      |true=>
       obtain⟨q,rfl⟩:=h.2.2 h13;rw[World.cell?_setCell_other _ _ _ _ gp];exact ca7) ⟨by simp,fun _=>⟨1,rfl⟩,by simp⟩ ?_
     iterate 6 refine sq ?_
     refine sq ?_;iterate 3 refine sq ?_
     refine Ga (fun v=>v=pb) (by
      intro l u W' hl hp hF hG hi K hK;have hR:=hF.o;have h11:l 11=false:=(hi.o 11 bQ).1;have h13:l 13=false:=by
       cases h:l 13 with
       |false=>rfl
       |true=>exact absurd (h11.symm.trans (hR.1 h)) aJ
      obtain⟨q,rfl⟩:=hR.2.1 h13;have HRR:=Aa hR;clear hi hR h11 h13;simp[Region.binds,Cg]at hp;go_simp;exact hK _ _ _ rfl HRR.o br) ?_
     refine Ga (fun v=>v=.string ⟨(pa++58::pb).toArray⟩) (by
      intro l u W' hl hp hF hG hi K hK;have HRR:=hF;clear hi;simp[Region.binds,Cg]at hp;go_simp;exact hK (.string ⟨(pa++58::pb).toArray⟩) _ _ rfl ⟨fun _=>rfl,HRR.o.2.1,HRR.o.2.2⟩ (by first|rfl|(simp[Act.put,hp];done)|(simp[Act.put,hp];rfl))) ?_
     refine sq ?_
     refine Ga (fun _=>True) (by
      intro l u W' hl hp hF hG hi K hK;obtain⟨q,rfl⟩:=hF.o.2.1 hl;clear hi;have h11:l 11=true:=by simp[Region.binds,Cg]at hp;first|exact hp.1|exact hp.2.1|exact hp.1.1|simp[hp]
      simp[Region.binds,Cg]at hp;go_simp;exact hK undef _ _ Ac ⟨fun _=>h11,fun h=>Bool.noConfusion h,fun _=>⟨q,rfl⟩⟩ br) ?_
     intro l u W' hl _ hR;obtain⟨q,rfl⟩:=hR.2.2 (hl 13 aJ);have Ht2:=Aa (HTs.o q);have Hb2:=@Aa (Below wo wo ((wr.drewN q).setCell ⟨gb,m,none⟩ (.string ⟨(pa++58::pb).toArray⟩))) ((below_drewN Hbr8.o q).setCell hgb _);clear hl hR HTs ca7 cb7 cf7;generalize (wr.drewN q).setCell ⟨gb,m,none⟩ (.string ⟨(pa++58::pb).toArray⟩)=w10 at *;go_wp2_with fail;go_roundw
     case rel=>exact⟨m+1,by go_num,by omega,Ht2.o,Hb2.o⟩
     case measure=>simp[intOf];omega
    ·obtain rfl:m=fds.length:=aG
     have Hj:=Aa (show Tw ps fds.length=ps.map (fun p=>p.1++58::p.2)by
      have:=Hps.o.1;rw[<-this];simp[Tw])
     have hpl:(ps.map fun p=>p.1++58::p.2).length=fds.length:=by rw[List.length_map];exact Hps.o.1
     have hp9:∀p∈ps.map (fun p=>p.1++58::p.2),p.length<=9004:=fun p hp=>by
      obtain⟨q,hq,rfl⟩:=aw.1 hp;have:=Hps.o.2 q hq;simp only[ah,List.length_cons];omega
     have hr9:=Ht.o.2.2.2.1;rw[Hj.o]at hr9;have hjl:=Qax _ hp9;rw[hpl]at hjl;have HJ:=Aa (Qbl (gb,0) cb (ps.map fun p=>p.1++58::p.2) wr (by rw[hpl];exact hr9) aG (fun p hp=>by have:=hp9 p hp;omega));rw[hpl]at HJ;have Hb9:=Aa (Hbr2.o.trans (Hbr8.o.mono Hbr2.o.size));clear hr9 hp9 hpl Hj Ht;generalize (ps.map fun p=>p.1++58::p.2)=qs at *;have z9:(Am 44 qs).length<=300000:=aG;go_wp2_with fail;refine HJ.o.mono ?_;rintro e w9 ⟨rfl,rfl⟩;go_wp2_with fail;go_ret2;exact⟨by rw[HO2.o];rfl,Hb9.o⟩
def Mf(S:List Ty)(d:Nat)(k:Kd)(v:Vl):Option (List UInt8):=if Cp S d k v=true then some (Dj S d k v)else none
theorem Yo{S:List Ty}{d:Nat}{α:Type}(K:α->Kd)(V:α->Vl):∀l:List α,Ki (l.map fun y=>Mf S d (K y) (V y))=if (l.all fun y=>Cp S d (K y) (V y))=true then some (l.map fun y=>Dj S d (K y) (V y))else none
 |[]=>rfl
 |y::l=>by
  rw[ax,List.all_cons,ax];unfold Mf;by_cases h:Cp S d (K y) (V y)=true
  ·rw[if_pos h,Ki];have ih:=Yo (S:=S) (d:=d) K V l;unfold Mf at ih;rw[ih,h,Bool.true_and];split<;>rfl
  rw[if_neg h];simp[Ki,h]
theorem Qj0{k:Kd}(hk:Ch k):∃c r,Cr k=c::r/\c≠63:=by
 unfold Cr;rcases hk.2.1 with⟨h,_⟩|⟨h|h|h,_⟩<;>rw[h]
 ·exact⟨_,_,rfl,by decide⟩
 ·exact⟨_,_,rfl,by decide⟩
 ·exact⟨_,_,rfl,by decide⟩
 exact⟨_,_,rfl,by decide⟩
theorem Zt{k:Kd}(hk:Ch k):Pz (Bt k)=decide (k.signs.take 2=[63,63]):=by
 obtain⟨c,r,hc,hne⟩:=Qj0 hk;unfold Pz Bt;rw[hc];cases hs:k.signs with
 |nil=>simp;exact fun h=>absurd h hne
 |cons a q=>
  cases q with
  |nil=>simp;exact fun _=>hne
  |cons a2 q=>simp
theorem Qlr{S:List Ty}{d:Nat}{k:Kd}{v:Vl}(h:Cp S d k v=false):Mf S d k v=none:=if_neg (by rw[h];decide)
theorem Qk1{S:List Ty}{d:Nat}{k:Kd}{v:Vl}(h:Cp S d k v=true):Mf S d k v=some (Dj S d k v):=if_pos h
theorem Qgt{S:List Ty}(hS:∀t∈S,Do t){d:Nat}{k:Kd}{v:Vl}(h:Gb S d k v)(hl:(Ay v).length<=400){p:List UInt8}(hp:Mf S d k v=some p):p.length<=9000:=by
 unfold Mf at hp;split at hp
 ·injection hp with hp;have:=Rl hS d k v h;rw[hp]at this;omega
 cases hp
def Qn5(S:List Ty)(d:Nat):Prop:=∀(k:Kd) (v:Vl),Gb S d k v->Ch k->(Ay v).length<=400->∀(P:Nat->Prop) (b:Nat) (xv:Value) (xs:List (Ty × Value)) (w:World),G8 w xv xs->Ag xs=S->Gx P w b (Cj S k v) ->
 Calls prog 16 #[.agg #[xv],b] w (TxQ (Mf S d k v) w)
theorem Xv{w:World}{v:Value}{xs:List (Ty × Value)}(h:G8 w v xs):∃A n c,v=.slice A n c:=by
 obtain⟨A,c,e,_⟩:=h;exact⟨A,_,c,e⟩
theorem Qk{S:List Ty}(P:Nat->Prop)(b:Nat)(c:UInt8)(hc:c=110\/c=116\/c=102)(text:List UInt8)(xv:Value)(xs:List (Ty × Value))(w:World)(hsc:G8 w xv xs)(hat:Gx P w b (.mk [c] text [] [])):
  Calls prog 16 #[.agg #[xv],b] w (TxQ (some text) w):=by
 have:=Qy P b c [] text [] [] xv (Xv hsc) w hat [] rfl aL aL (fun i hi=>by simp at hi) none (fun h=>by rcases hc with rfl|rfl|rfl<;>exact absurd h aJ);have e:nmO [c] text [] none=some text:=by rcases hc with rfl|rfl|rfl<;>simp[nmO,Pz,Ki]
 rwa [e]at this
theorem Qe{S:List Ty}(hS:∀t∈S,Do t){d:Nat}(ih:Qn5 S d)(k:Kd)(c:UInt8)(r:List UInt8)(hs:k.signs=c::r)(hc:c=91\/c=63)(hk:Ch k)(ks:List Vl)(hl:ks.length<=20)(h:∀x∈ks,Gb S d k.part x)(h4:∀x∈ks,(Ay x).length<=400)(P:Nat->Prop)(b:Nat)(xv:Value)(xs:List (Ty × Value))(w:World)(hsc:G8 w xv xs)(hxs:Ag xs=S)
  (hat:Gx P w b (.mk (Bt k) [] [] (ks.map (Cj S k.part)))):
  Calls prog 16 #[.agg #[xv],b] w (TxQ (nmO (Bt k) [] (ks.map fun x=>Mf S d k.part x) none) w):=by
 have e:Bt k=c::Bt k.part:=by unfold Bt Kd.part Cr;rw[hs];rfl
 rw[e]at hat ⊢;have hkp:=(Kb hk).1;refine Qy P b c _ [] [] _ xv (Xv hsc) w hat (ks.map fun x=>Mf S d k.part x) aL (fun p hp=>?_) eJ (fun i hi o ho c' W hW hat'=>?_) none (fun h=>by rcases hc with rfl|rfl<;>exact absurd h aJ)
 ·obtain⟨x,hx,he⟩:=aw.1 hp;have:=Qgt hS (h x hx) (h4 x hx) he;omega
 have hi':i<ks.length:=eI;have eo:o=Mf S d k.part ks[i]:=by
  rw[List.getElem?_map,List.getElem?_eq_getElem hi']at ho;simpa using ho.symm
 rw[eo];exact ih k.part ks[i] (h _ (ae hi')) hkp (h4 _ (ae hi')) P c' xv xs W (hsc.below hW) hxs (by simpa using hat')
theorem Qn0{xs:List (Ty × Value)}{n:Df}{t:Ty}(h:B6 (Ag xs) n=some t):∃tv,E3 xs n=some (t,tv):=by
 rw[J9]at h;cases hq:E3 xs n with
 |none=>rw[hq]at h;cases h
 |some y=>rw[hq]at h;simp at h;subst h;exact⟨y.2,rfl⟩
theorem Qo{S:List Ty}(hS:∀t∈S,Do t){d:Nat}(ih:Qn5 S d)(k:Kd)(hs:k.signs=[])(hbs:k.base=[64])(hk:Ch k)(t:Ty)(ht:B6 S k.name=some t)(text:List UInt8)(fds:List Fd)(hf:∀f∈fds,Bj t.fields f.tag=some f)(hfw:fds.length<=8)(ks:List (Kd × Vl))(hl:text≠[69]->ks.length=fds.length)(hl8:ks.length<=8)(h69:text=[69]->0<fds.length)
  (h:∀x∈ks,Gb S d x.1 x.2/\Ch x.1/\(Ay x.2).length<=400) (P:Nat->Prop) (b:Nat) (xv:Value) (xs:List (Ty × Value)) (w:World) (hsc:G8 w xv xs) (hxs:Ag xs=S)
  (hat:Gx P w b (.mk (Bt k) text (fds.map (·.tag)) (ks.map fun x=>Cj S x.1 x.2))):
  Calls prog 16 #[.agg #[xv],b] w (TxQ ((Ki (ks.map fun x=>Mf S d x.1 x.2)).map fun fs=>tyO text (fds.map (·.name)) fs) w):=by
 have e:Bt k=64::(k.name++[59]):=by unfold Bt Cr;rw[hs,if_pos hbs];rfl
 have hat2:=hat;rw[e]at hat;obtain⟨tv,hfx⟩:=Qn0 (xs:=xs) (by rw[hxs];exact ht);have hfd:Ef w tv t.fields:=by obtain⟨_,_,_,_,_,hscf⟩:=hsc;exact hscf (t,tv) (Db hfx).1
 have hrx:J3 xs k=some (t,tv):=by unfold J3;rw[if_pos ⟨hs,hbs⟩];exact hfx
 have hlen:∀p,some p∈ks.map (fun x=>Mf S d x.1 x.2)->p.length<=9000:=fun p hp=>by
  obtain⟨x,hx,he⟩:=aw.1 hp;exact Qgt hS (h x hx).1 (h x hx).2.2 he
 have:=Qy P b 64 (k.name++[59]) text (fds.map (·.tag)) _ xv (Xv hsc) w hat (ks.map fun x=>Mf S d x.1 x.2) aL (fun p hp=>by have:=hlen p hp;omega) aO (fun i hi o ho c' W hW hat'=>by
  have hi':i<ks.length:=eI;have eo:o=Mf S d ks[i].1 ks[i].2:=by
   rw[List.getElem?_map,List.getElem?_eq_getElem hi']at ho;simpa using ho.symm
  rw[eo];obtain⟨h1,h2,h3⟩:=h _ (ae hi');exact ih _ _ h1 h2 h3 P c' xv xs W (hsc.below hW) hxs (by simpa using hat')) ((Ki (ks.map fun x=>Mf S d x.1 x.2)).map fun fs=>tyO text (fds.map (·.name)) fs) (fun _ fs hfs A c W hW hrow=>by
  rw[hfs,Vg];have hfl:fs.length=ks.length:=by
   have:=congrArg List.length hfs;simpa using this.symm
  exact Qag P b k hk text (fds.map (·.tag)) _ xv xs W (hsc.below hW) (hat2.after hW) t tv hrx (hfd.below hW) fds rfl (fun f hf'=>by
   have hfo:=(hS t (Be ht).1).2.2.1.1 f (Bi (hf f hf')).2;have:=hfo.2.1;exact⟨hf f hf',by omega,(C7.1 hfo.2.2.1).2.1⟩) aG fs (fun h=>by rw[hfl,hl h]) h69 (fun p hp=>hlen p (by rw[hfs];exact ao hp)) A c hrow)
 have en:nmO (64::(k.name++[59])) text (ks.map fun x=>Mf S d x.1 x.2) ((Ki (ks.map fun x=>Mf S d x.1 x.2)).map fun fs=>tyO text (fds.map (·.name)) fs)=(Ki (ks.map fun x=>Mf S d x.1 x.2)).map fun fs=>tyO text (fds.map (·.name)) fs:=by
  unfold nmO;rw[if_neg (by simp[Pz])];cases Ki (ks.map fun x=>Mf S d x.1 x.2)with
  |none=>rfl
  |some fs=>simp
 rwa [en]at this
theorem Qbw{p:List UInt8}:∀{l:List (List UInt8)},p∈l->p.length+1<=Cq l
 |q::l,h=>by
  rw[Cu];rcases az.1 h with rfl|h
  ·omega
  have:=Qbw h;omega
theorem Qga{S:List Ty}(hS:∀t∈S,Do t):∀d,Qn5 S d:=by
 intro d;induction d with
 |zero=>intro k v h;cases h
 |succ d ih=>
  intro k v h hk hl P b xv xs w hsc hxs hat;cases h with
  |@n _ _ m hs hb h=>
   rw[Qcf,show Bt k=[110]by unfold Bt Cr;rw[hs,hb];rfl]at hat;have:=Qk P b 110 aL _ xv xs w hsc hat (S:=S);rwa [show Mf S (d+1) k (.mk 110 (Bb m) 0 [])=some (Bb m)by simp[Mf,Cp,Dj,Vl.what,E4,Fa]]
  |@t _ _ s hs hb h=>
   rw[Za,show Bt k=[116]by unfold Bt Cr;rw[hs,hb];rfl]at hat;have:=Qk P b 116 aL _ xv xs w hsc hat (S:=S);rwa [show Mf S (d+1) k (.mk 116 s 0 [])=some (39::(s++[39]))by simp[Mf,Cp,Dj,Vl.what,E4,Fa]]
  |@f _ _ s hs hb=>
   rw[Yd,show Bt k=[102]by unfold Bt Cr;rw[hs,hb];rfl]at hat;have:=Qk P b 102 aL _ xv xs w hsc hat (S:=S);rwa [show Mf S (d+1) k (.mk 102 (if s=true then Eh else Mb) 0 [])=some (if s=true then Eh else Mb)by simp[Mf,Cp,Dj,Vl.what,E4,Fa]]
  |@lst _ _ r ks hs hl2 h=>
   rw[Td]at hat;have hp:∀x∈ks,(Ay x).length<=400:=fun x hx=>by
    have:=Qbw (ao (f:=Ay) hx);rw[E4]at hl;have e1:=Bg 44 (ks.map Ay);simp[Fa]at hl;omega
   have:=Qe hS ih k 91 r hs (.inl rfl) hk ks hl2 h hp P b xv xs w hsc hxs hat;have e:nmO (Bt k) [] (ks.map fun x=>Mf S d k.part x) none=Mf S (d+1) k (.mk 91 [] 0 ks):=by
    unfold nmO;rw[Zt hk,hs,Yo (fun _=>k.part) (fun x=>x)];unfold Mf;simp only[Cp,Dj,Vl.what,Vl.kids];by_cases hq:(ks.all fun x=>Cp S d k.part x)=true
    ·have hq':ks.all (Cp S d k.part)=true:=hq;simp[hq',Bt,hs]
    have hq':¬ks.all (Cp S d k.part)=true:=hq;simp only[Bool.not_eq_true]at hq';simp[hq']
   rwa [e]at this
  |@non _ _ r hs=>
   rw[Ph]at hat;have:=Qe hS ih k 63 r hs (.inr rfl) hk [] aL aL aL P b xv xs w hsc hxs hat;have e:nmO (Bt k) [] (([]:List Vl).map fun x=>Mf S d k.part x) none=Mf S (d+1) k (.mk 63 [] 0 []):=by
    unfold nmO;rw[Zt hk,hs];unfold Mf;simp only[Cp,Dj,Vl.what,Vl.kids,Kd.part,hs,List.tail_cons];cases r with
    |nil=>simp[Ki,Bt,hs]
    |cons c r=>
     by_cases h63:c=63
     ·simp[h63]
     simp[h63,Ki,Bt,hs]
   rwa [e]at this
  |@som _ _ r x hs h=>
   rw[Ph]at hat;have hp:(Ay x).length<=400:=gU;have:=Qe hS ih k 63 r hs (.inr rfl) hk [x] aL aR ft P b xv xs w hsc hxs hat;have e:nmO (Bt k) [] ([x].map fun x=>Mf S d k.part x) none=Mf S (d+1) k (.mk 63 [] 0 [x]):=by
    unfold nmO;rw[Zt hk,hs];unfold Mf;simp only[Cp,Dj,Vl.what,Vl.kids];have hr:k.part.signs=r:=ew;rw[hr];by_cases hq:Cp S d k.part x=true
    ·cases r with
     |nil=>simp[Ki,Bt,hs,hq]
     |cons c r=>
      by_cases h63:c=63
      ·simp[h63]
      simp[h63,Ki,Bt,hs,hq]
    cases r with
    |nil=>simp[Ki,hq]
    |cons c r=>
     by_cases h63:c=63
     ·simp[h63]
     simp[h63,Ki,hq]
   rwa [e]at this
  |@enm _ _ t f hs hb ht h9 hf=>
   rw[Th]at hat;have:=Qo hS ih k hs hb hk t ht [69] [f] gj aL [] aL aL aL aL P b xv xs w hsc hxs hat;rwa [show ((Ki (([]:List (Kd × Vl)).map fun x=>Mf S d x.1 x.2)).map fun fs=>tyO [69] ([f].map (·.name)) fs)=Mf S (d+1) k (.mk 69 [] f.tag [])by simp[Ki,tyO,Mf,Cp,Dj,Vl.what,Vl.tag,Dp ht hf]]at this
  |@uni _ _ t f x hs hb ht h5 hf h=>
   have hfk:=Cv ht hf;rw[Qu,hfk]at hat;have hp:(Ay x).length<=400:=gU;have hkf:Ch f.kind:=(((hS t (Be ht).1).2.2.1.1 f (Bi hf).2).2.2.2.2 cY).1;have:=Qo hS ih k hs hb hk t ht [85] [f] gj aL [(f.kind,x)] aL aL aL (by simpa using⟨h,hkf,hp⟩) P b xv xs w hsc hxs hat;have e:((Ki ([(f.kind,x)].map fun x=>Mf S d x.1 x.2)).map fun fs=>tyO [85] ([f].map (·.name)) fs)=Mf S (d+1) k (.mk 85 [] f.tag [x]):=by
    unfold Mf;simp only[Cp,Dj,Vl.what,Vl.kids,Vl.tag,hfk,Dp ht hf];by_cases hq:Cp S d f.kind x=true
    ·simp[Ki,hq,tyO,Gg,Pu,Am,Mw,Vl.kids]
    simp[Ki,hq]
   rwa [e]at this
  |@rcd _ _ t fs hs hb ht h2 hf h hn hp=>
   have hfk:∀p∈fs,Fq S k p.1.tag=p.1.kind:=fun p hp2=>Cv ht (hf p hp2);rw[Sw]at hat;have hp4:∀p∈fs,(Ay p.2).length<=400:=fun p hp2=>by
    have h3:=Qbw (ao (f:=fun p=>Ay (C5 p)) hp2);rw[E4]at hl;have e1:=Bg 44 ((fs.map C5).map Ay);simp[Fa]at hl;simp only[List.map_map]at e1 hl;have e2:Ay (C5 p)=Bb p.1.tag++61::Ay p.2:=by rw[C5,E4];simp[Fa,Am]
    rw[e2]at h3;simp only[ah,List.length_cons]at h3;have e3:(fs.map (Ay ∘ C5))=fs.map fun p=>Ay (C5 p):=rfl;rw[e3]at e1 hl;omega
   have hat':Gx P w b (.mk (Bt k) [82] ((fs.map (·.1)).map (·.tag)) ((fs.map fun p=>(p.1.kind,p.2)).map fun x=>Cj S x.1 x.2)):=by
    rw[List.map_map,List.map_map];have e1:fs.map ((fun x:Kd × Vl=>Cj S x.1 x.2) ∘ fun p=>(p.1.kind,p.2))=fs.map fun p=>Cj S (Fq S k p.1.tag) p.2:=List.map_congr_left fun p hp2=>by simp[hfk p hp2]
    rw[e1];exact hat
   have:=Qo hS ih k hs hb hk t ht [82] (fs.map (·.1)) (fun f hf'=>by
    obtain⟨p,hp2,rfl⟩:=aw.1 hf';exact hf p hp2) gB (fs.map fun p=>(p.1.kind,p.2)) aL gB aL (fun x hx=>by
    obtain⟨p,hp2,rfl⟩:=aw.1 hx;exact⟨h p hp2,(((hS t (Be ht).1).2.2.1.1 p.1 (Bi (hf p hp2)).2).2.2.2.2 cj).1,hp4 p hp2⟩) P b xv xs w hsc hxs hat'
   have e:((Ki ((fs.map fun p=>(p.1.kind,p.2)).map fun x=>Mf S d x.1 x.2)).map fun l=>tyO [82] ((fs.map (·.1)).map (·.name)) l)=Mf S (d+1) k (.mk 82 [] 0 (fs.map C5)):=by
    have e1:=Yo (S:=S) (d:=d) (fun p:Fd × Vl=>p.1.kind) (fun p=>p.2) fs;rw[show ((fs.map fun p=>(p.1.kind,p.2)).map fun x:Kd × Vl=>Mf S d x.1 x.2)=fs.map fun y=>Mf S d y.1.kind y.2 by rw[List.map_map];rfl,e1];have e2:((fs.map C5).all fun y=>Cp S d (Fq S k y.tag) (Mw y))=fs.all fun y=>Cp S d y.1.kind y.2:=by
     rw[List.all_map];rw[Bool.eq_iff_iff,List.all_eq_true,List.all_eq_true];exact⟨fun H p hp2=>by have:=H p hp2;rw[<-hfk p hp2];exact this,fun H p hp2=>by have:=H p hp2;rw[<-hfk p hp2]at this;exact this⟩
    have e3:Cp S (d+1) k (.mk 82 [] 0 (fs.map C5))=fs.all fun y=>Cp S d y.1.kind y.2:=by rw[<-e2];simp[Cp,Vl.what,Vl.kids]
    have e4:Dj S (d+1) k (.mk 82 [] 0 (fs.map C5))=tyO [82] ((fs.map (·.1)).map (·.name)) (fs.map fun y=>Dj S d y.1.kind y.2):=by
     have z1:(fs.map (·.1)).map (·.name)=(fs.map C5).map fun y=>D5 S k y.tag:=by
      rw[List.map_map,List.map_map];exact List.map_congr_left fun p hp2=>(Dp ht (hf p hp2)).symm
     have z2:(fs.map fun y=>Dj S d y.1.kind y.2)=(fs.map C5).map fun y=>Dj S d (Fq S k y.tag) (Mw y):=by
      rw[List.map_map];exact List.map_congr_left fun p hp2=>by
       show _=Dj S d (Fq S k p.1.tag) p.2;rw[hfk p hp2]
     unfold tyO;rw[z1,z2,Qm6 S k (fs.map C5) (fun y=>Dj S d (Fq S k y.tag) (Mw y)),List.map_map,if_neg aJ];simp[Dj,Vl.what,Vl.kids];rfl
    unfold Mf;rw[e3,e4];split<;>rfl
   rwa [e]at this
def Qx(S:List Ty)(k:Kd)(v:Vl):Option (List UInt8):=Mf S 12 k v
theorem Qm5(s d x:List UInt8)(w:World)(HO:Calls prog 15 #[s,d,x] w (Mv s d x w)):
  Calls prog 8 #[s,d,x] w (Qw (vlB (Cx s d) x Qx) w):=by
 have HO:=Aa HO;go_enter func8,ntmps8;go_wp2_with fail;refine HO.o.mono ?_;rintro e w1 hpost;obtain⟨hb1,⟨hv,v,q,rfl⟩|⟨S,k,v,xv,xs,b,hb,hv,rfl,hxs,hsc,hat⟩⟩:=hpost.cases
 ·have HV:=Aa (Qha (f:=Qx) hv);have Hb1:=Aa hb1;clear hv hpost hb1;go_wp2_with fail;go_ret2;exact⟨by rw[HV.o];rfl,Hb1.o⟩
 obtain⟨S',k',e1,hok,hk,_,hkd,hvok,hpr,hxl⟩:=Qbg hv;rw[hb]at e1;injection e1 with e1;injection e1 with e1 e2;subst e1 e2;have hS:=hok.1.1;have Hb1:=Aa hb1
 have HE:=Aa (show vlB (Cx s d) x Qx=Mf S 12 k v by
  rw[hb];have h:Kz S k x=some v:=by rw[hb]at hv;exact hv
  simp[vlB,h,Qx])
 have HX:=Aa (Qga hS 12 k v hvok hk (by rw[hpr];exact hxl) _ b xv xs w1 hsc hxs hat);unfold TxQ txV at HX;obtain⟨A9,n9,c9,rfl⟩:=Xv hsc;clear hpost hb1 hb hv hok hk hkd hvok hpr hS hat hsc hxs;generalize Mf S 12 k v=o at *;go_wp2_with fail;refine HX.o.mono ?_;rintro e w2 ⟨rfl,hb2⟩;have Hb2:=Aa (Hb1.o.trans (hb2.mono Hb1.o.size));clear hb2;go_wp2_with fail;go_ret2;exact⟨by rw[HE.o];rfl,Hb2.o⟩
def Rr(st:Nat × Nat)(c:UInt8):Option (Nat × Nat):=
 if Bo c=true then some (st.1,st.2+1)else if c=64/\8<st.1+st.2 then none else some (st.2,0)
def mach:Nat × Nat->List UInt8->Option (Nat × Nat)
 |st,[]=>some st
 |st,c::r=>match Rr st c with
  |none=>none
  |some q=>mach q r
theorem Gv:∀(a b:List UInt8) (st:Nat × Nat),mach st (a++b)=match mach st a with|none=>none|some q=>mach q b
 |[],b,st=>rfl
 |c::a,b,st=>by
  rw[au,mach,mach];cases h:Rr st c with
  |none=>rfl
  |some q=>exact Gv a b q
theorem Kj:∀(g:List UInt8) (st:Nat × Nat),g.all Bo=true->mach st g=some (st.1,st.2+g.length)
 |[],st,_=>rfl
 |c::g,st,h=>by
  simp only[List.all_cons,av]at h;rw[mach,Rr,if_pos h.1];simp only;rw[Kj g _ h.2];simp;omega
theorem Qdb{p:List UInt8}{x:UInt8}{g1 g2 q:List UInt8}(h1:g1.all Bo=true)(h2:g2.all Bo=true){st:Nat × Nat}(h:mach (0,0) (p++(g1++x::(g2++64::q)))=some st):g1.length+g2.length<=8:=by
 rw[Gv]at h;cases hp:mach (0,0) p with
 |none=>rw[hp]at h;cases h
 |some s0=>
  rw[hp]at h;simp only at h;rw[Gv,Kj g1 _ h1]at h;simp only[mach]at h;by_cases hx:Bo x=true
  ·rw[Rr,if_pos hx]at h;simp only at h;rw[Gv,Kj g2 _ h2]at h;simp only[mach]at h;rw[Rr,if_neg aJ]at h;split at h
   ·cases h
   rename_i h';split at h'
   ·cases h'
   rename_i hc;simp at hc;omega
  rw[Rr,if_neg hx]at h;split at h
  ·cases h
  rename_i h';split at h'
  ·cases h'
  injection h' with h';subst h';rw[Gv,Kj g2 _ h2]at h;simp only[mach]at h;rw[Rr,if_neg aJ]at h;split at h
  ·cases h
  rename_i h';split at h'
  ·cases h'
  rename_i hc;simp at hc;omega
theorem Sz{p g q:List UInt8}(h1:g.all Bo=true){st:Nat × Nat}(h:mach (0,0) (p++(g++64::q))=some st):g.length<=8:=by
 rw[Gv]at h;cases hp:mach (0,0) p with
 |none=>rw[hp]at h;cases h
 |some s0=>
  rw[hp]at h;simp only at h;rw[Gv,Kj g _ h1]at h;simp only[mach]at h;rw[Rr,if_neg aJ]at h;split at h
  ·cases h
  rename_i h';split at h'
  ·cases h'
  rename_i hc;simp at hc;omega
def Z4(s:List UInt8):Prop:=∀p g q,s=p++(g++64::q)->g.all Bo=true->g.length<=8
theorem Z4.of_mach{s:List UInt8}{st:Nat × Nat}(h:mach (0,0) s=some st):Z4 s:=fun p g q e hg=>by subst e;exact Sz hg h
theorem Qcm:∀{a b c d:List UInt8},a++b=c++d->(∃m,c=a++m/\b=m++d)\/(∃m,a=c++m/\d=m++b)
 |[],b,c,d,h=>.inl ⟨c,rfl,h⟩
 |x::a,b,[],d,h=>.inr ⟨x::a,rfl,h.symm⟩
 |x::a,b,y::c,d,h=>by
  rw[au,au]at h;injection h with h1 h2;subst h1;rcases Qcm h2 with⟨m,e1,e2⟩|⟨m,e1,e2⟩
  ·exact .inl ⟨m,by rw[e1];rfl,e2⟩
  exact .inr ⟨m,by rw[e1];rfl,e2⟩
theorem Ql3{p:UInt8->Bool}{a b:List UInt8}(h:(a++b).all p=true):a.all p=true/\b.all p=true:=by
 rw[List.all_append,av]at h;exact h
theorem Z4.turned{a b:List UInt8}{x:UInt8}{st:Nat × Nat}(h:mach (0,0) (a++x::b)=some st)(i:List UInt8)(hi:i=[]\/∃c,i=[c]/\Bo c=false/\c≠64):Z4 (a++(i++b)):=by
 intro p g q e hg;rcases Qcm e with⟨m,e1,e2⟩|⟨m,e1,e2⟩
 ·
  rcases hi with rfl|⟨c,rfl,_,_⟩
  ·rw[List.nil_append]at e2;subst e2;exact Sz (p:=a++x::m) hg aR
  cases m with
  |nil=>
   rw[List.nil_append,List.singleton_append]at e2;cases g with
   |nil=>simp
   |cons y g=>
    rw[au]at e2;injection e2 with e3 e4;subst e3;simp only[List.all_cons,av]at hg;rename_i hc _;rw[hg.1]at hc;cases hc
  |cons y m=>
   rw[List.singleton_append,au]at e2;injection e2 with e3 e4;subst e4;exact Sz (p:=a++x::m) hg aR
 ·
  subst e1;rcases Qcm e2 with⟨n,f1,f2⟩|⟨n,f1,f2⟩
  ·
   subst f1;cases n with
   |nil=>
    rw[List.nil_append]at f2;rcases hi with rfl|⟨c,rfl,_,hc⟩
    ·rw[List.nil_append]at f2;subst f2;have:=Qdb (p:=p) (x:=x) (g1:=g) (g2:=[]) (q:=q) hg rfl aR;simpa using this
    rw[List.singleton_append]at f2;injection f2 with f3 _;exact absurd f3.symm hc
   |cons y n=>
    rw[au]at f2;injection f2 with f3 f4;subst f3;exact Sz (p:=p) (g:=g) (q:=n++x::b) hg aR
  ·
   subst f1;obtain⟨hm,hn⟩:=Ql3 hg;rcases hi with rfl|⟨c,rfl,hc,hc2⟩
   ·rw[List.nil_append]at f2;subst f2;have:=Qdb (p:=p) (x:=x) (g1:=m) (g2:=n) (q:=q) hm hn aR;rw[ah];exact this
   cases n with
   |nil=>
    rw[List.nil_append,List.singleton_append]at f2;injection f2 with f3 _;exact absurd f3 hc2
   |cons y n=>
    rw[List.singleton_append,au]at f2;injection f2 with f3 _;subst f3;simp only[List.all_cons,av]at hn;rw[hn.1]at hc;cases hc
end
theorem Vo:(prog.info? 31).map (fun i=>(i.zero,i.size,i.bytes))=some (some (.pointer none),1,8):=aM
theorem Qku:(prog.info? 3).map (fun i=>(i.zero,i.size,i.bytes))=some (some (.int .i64 0),1,8):=aM
theorem Yz{W:World}{base s1 s2 n1 n2:Nat}{e1 e2:TypeId}{v1 v2:Value}{xs ys:List Value}(h:W.ownsRow base e1 s1 v1 n1 xs)(k:W.ownsRow base e2 s2 v2 n2 ys)(hne:e1≠e2):v1.ownBlock=none\/v1.ownBlock≠v2.ownBlock:=by
 obtain⟨_,⟨rfl,_⟩|⟨g,cap,cur,rfl,_,h3,_⟩⟩:=h
 ·exact .inl rfl
 obtain⟨_,⟨rfl,_⟩|⟨g',cap',cur',rfl,_,k3,_⟩⟩:=k
 ·exact .inr dV
 refine .inr fun e=>?_;injection e with e;simp only at e;subst e;rw[h3]at k3;injection k3 with k3;injection k3 with _ k3;exact hne k3
theorem Nl{base b:Nat}{v:Value}(h:∀k,v.ownBlock=some k->base<=k)(hb:b<base):v.ownBlock=none\/v.ownBlock≠some b:=by
 by_cases hr:v.ownBlock=none
 ·exact .inl hr
 exact .inr fun e=>by have:=h b e;omega
structure Fk(base B:Nat)(W:World)(h0 h1 tu tv ku kv:Value)(gs:List Nat)(xs:List (Nat × SV)):Prop where
 lt:B<W.heap.size
 bs:base<=W.heap.size
 hB:B<base
 bk:Pi W B
 c0:W.cell? (B,0)=some h0
 c1:W.cell? (B,1)=some h1
 c2:W.cell? (B,2)=some tu
 c3:W.cell? (B,3)=some ku
 tags:W.ownsRow base 3 1 tv gs.length (De gs)
 row:W.ownsRow base 31 1 kv xs.length (E8 (xs.map (·.1)))
 kids:∀x∈xs,Gx (fun c=>base<=c/\kv.ownBlock≠some c/\tv.ownBlock≠some c) W x.1 x.2
theorem Fk.after{base B:Nat}{W W':World}{h0 h1 tu tv ku kv:Value}{gs:List Nat}{xs:List (Nat × SV)}(h:Fk base B W h0 h1 tu tv ku kv gs xs)(hb:Below W W W'):Fk base B W' h0 h1 tu tv ku kv gs xs:=by
 obtain⟨hc,_,hz⟩:=Ck hb;exact⟨hz _ h.lt,ad h.bs hb.size,h.hB,h.bk.belowAt h.lt hb,(hc _ _ h.lt).trans h.c0,(hc _ _ h.lt).trans h.c1,(hc _ _ h.lt).trans h.c2,(hc _ _ h.lt).trans h.c3,Ba h.tags hb,Ba h.row hb,fun x hx=>(h.kids x hx).after hb⟩
theorem Fk.set2{base B:Nat}{W:World}{h0 h1 tu tv ku kv:Value}{gs:List Nat}{xs:List (Nat × SV)}(h:Fk base B W h0 h1 tu tv ku kv gs xs):Fk base B (W.setCell ⟨B,2,none⟩ tv) h0 h1 tv tv ku kv gs xs:=by
 have hg:=Al W B 2 tv;exact mc
theorem Fk.set3{base B:Nat}{W:World}{h0 h1 tu tv ku kv:Value}{gs:List Nat}{xs:List (Nat × SV)}(h:Fk base B W h0 h1 tu tv ku kv gs xs):Fk base B (W.setCell ⟨B,3,none⟩ kv) h0 h1 tu tv kv kv gs xs:=by
 have hg:=Al W B 3 kv;exact mc
theorem Fk.appK{base B:Nat}{W W':World}{h0 h1 tu tv ku kv kv':Value}{gs:List Nat}{xs:List (Nat × SV)}{x:Nat × SV}(h:Fk base B W h0 h1 tu tv ku kv gs xs)(hx:Gx (fun c=>base<=c/\kv.ownBlock≠some c/\tv.ownBlock≠some c) W x.1 x.2)
  (hown:W'.ownsRow base 31 1 kv' (xs.length+1) (E8 (xs.map (·.1))++[.pointer (some ⟨x.1,0,none⟩)])) (hg:W.grownBy W' kv.ownBlock) (hwh:kv'.ownBlock=kv.ownBlock\/∃k,kv'.ownBlock=some k/\W.heap.size<=k):Fk base B W' h0 h1 tu tv ku kv' gs (xs++[x]):=by
 have hn:some B≠kv.ownBlock:=fun e=>gn;refine⟨ac h.lt hg.size,ad h.bs hg.size,h.hB,h.bk.grown h.lt hg hn,hg.cell h.c0 hn,hg.cell h.c1 hn,hg.cell h.c2 hn,hg.cell h.c3 hn,h.tags.kept hg (Yz h.tags h.row aJ),by simpa [E8]using hown,fun y hy=>?_⟩;have hy':Gx (fun c=>base<=c/\kv.ownBlock≠some c/\tv.ownBlock≠some c) W y.1 y.2:=by
  rcases af.1 hy with hy|hy
  ·exact h.kids y hy
  rw[ap]at hy;subst hy;exact hx
 refine hy'.kept (fun b o v hb _ hv=>hg.cell hv fun e=>hb.2.1 e.symm) hg.size fun c hc hl=>⟨hc.1,?_,hc.2.2⟩
 rcases hwh with e|⟨k,e,hk⟩
 ·rw[e];exact hc.2.1
 exact lL
theorem Fk.appT{base B:Nat}{W W':World}{h0 h1 tu tv tv' ku kv:Value}{gs:List Nat}{xs:List (Nat × SV)}{g:Nat}(h:Fk base B W h0 h1 tu tv ku kv gs xs)
  (hown:W'.ownsRow base 3 1 tv' (gs.length+1) (De gs++[.int .i64 (g:Int)])) (hg:W.grownBy W' tv.ownBlock) (hwh:tv'.ownBlock=tv.ownBlock\/∃k,tv'.ownBlock=some k/\W.heap.size<=k):Fk base B W' h0 h1 tu tv' ku kv (gs++[g]) xs:=by
 have hn:some B≠tv.ownBlock:=fun e=>by have:=(h.tags.lt B e.symm).1;have:=h.hB;omega
 refine⟨ac h.lt hg.size,ad h.bs hg.size,h.hB,h.bk.grown h.lt hg hn,hg.cell h.c0 hn,hg.cell h.c1 hn,hg.cell h.c2 hn,hg.cell h.c3 hn,by simpa [De]using hown,h.row.kept hg (Yz h.row h.tags aJ),fun y hy=>?_⟩;refine(h.kids y hy).kept (fun b o v hb _ hv=>hg.cell hv fun e=>hb.2.2 e.symm) hg.size fun c hc hl=>⟨hc.1,hc.2.1,?_⟩
 rcases hwh with e|⟨k,e,hk⟩
 ·rw[e];exact hc.2.2
 exact lL
theorem Qjo{w:World}{base k n m c:Nat}{e:TypeId}{A:Option Addr}{xs:List Value}(h:w.ownsRow base e k (.slice A m c) n xs):m=n:=by
 rcases h.2 with⟨e,h0⟩|⟨g,cap,cur,e,_⟩
 ·injection e with _ e1 e2;omega
 injection e with _ e1 e2
theorem Fk.push{base B n c:Nat}{W W':World}{A:Option Addr}{h0 h1 tu tv ku kv':Value}{gs:List Nat}{xs:List (Nat × SV)}{x:Nat × SV}(h:Fk base B W h0 h1 tu tv ku (.slice A n c) gs xs)(hx:Gx (fun c1=>base<=c1/\(Value.slice A n c).ownBlock≠some c1/\tv.ownBlock≠some c1) W x.1 x.2)
  (hown:W'.ownsRow base 31 1 kv' (xs.length+1) (E8 (xs.map (·.1))++[.pointer (some ⟨x.1,0,none⟩)])) (hg:W.grownBy W' (Value.slice A n c).ownBlock) (hwh:kv'.ownBlock=(Value.slice A n c).ownBlock\/∃k,kv'.ownBlock=some k/\W.heap.size<=k):
  ∃A6 c6,kv'=.slice A6 (xs++[x]).length c6/\Fk base B W' h0 h1 tu tv ku kv' gs (xs++[x])/\Below base W W':=by
 have hA:=h.appK hx hown hg hwh;have e:(xs++[x]).length=xs.length+1:=aL;rcases hown.2 with⟨e0,h0⟩|⟨g,cap,cur,e1,_⟩
 ·omega
 exact⟨some ⟨g,0,none⟩,cap,by rw[e,e1],hA,(Aw _ _).grown hg h.bs (fun k hk=>(h.row.lt k hk).1)⟩
theorem Fk.pushT{base B n c g:Nat}{W W':World}{A:Option Addr}{h0 h1 tu tv' ku kv:Value}{gs:List Nat}{xs:List (Nat × SV)}(h:Fk base B W h0 h1 tu (.slice A n c) ku kv gs xs)
  (hown:W'.ownsRow base 3 1 tv' (gs.length+1) (De gs++[.int .i64 (g:Int)])) (hg:W.grownBy W' (Value.slice A n c).ownBlock) (hwh:tv'.ownBlock=(Value.slice A n c).ownBlock\/∃k,tv'.ownBlock=some k/\W.heap.size<=k):
  ∃A6 c6,tv'=.slice A6 (gs++[g]).length c6/\Fk base B W' h0 h1 tu tv' ku kv (gs++[g]) xs/\Below base W W':=by
 have hA:=h.appT hown hg hwh;have e:(gs++[g]).length=gs.length+1:=aL;rcases hown.2 with⟨e0,h0⟩|⟨g9,cap,cur,e1,_⟩
 ·omega
 exact⟨some ⟨g9,0,none⟩,cap,by rw[e,e1],hA,(Aw _ _).grown hg h.bs (fun k hk=>(h.tags.lt k hk).1)⟩
theorem Qeh{w:World}{base n:Nat}{e:TypeId}{v:Value}{xs:List Value}(h:w.ownsRow base e 1 v n xs)(hx:xs.length=n)(hl:n<=1000):∃A c,v=.slice A n c/\Bh w A n xs/\∀g o,0<n->A=some ⟨g,o,none⟩->base<=g:=by
 have h':=h;rcases h.2 with⟨rfl,h0⟩|⟨g,cap,cur,rfl,hbg,hh,hnc,hcm,hcs,htk⟩
 ·subst h0;exact⟨none,0,rfl,⟨hx,ag _,fun hn=>absurd hn aJ⟩,fun g o hn _=>absurd hn aJ⟩
 refine⟨some ⟨g,0,none⟩,cap,rfl,⟨hx,by unfold maxLen;omega,fun hn=>⟨g,0,rfl,(h'.lt g rfl).2,fun j u hu=>?_⟩⟩,fun g' o _ e=>by injection e with e;injection e with e;subst e;exact hbg⟩;have:=h'.cells (g:=g) rfl j u hu;have e1:(⟨g,0,none⟩:Addr).add j=⟨g,0+j,none⟩:=bi;rwa [e1]at this
theorem Fk.done{base B:Nat}{W:World}{kind text:List UInt8}{tv kv:Value}{gs:List Nat}{xs:List (Nat × SV)}(h:Fk base B W kind text tv tv kv kv gs xs)(hg:gs.length<=1000)(hx:xs.length<=1000):Gx (fun c=>B<=c) W B (.mk kind text gs (xs.map (·.2))):=by
 obtain⟨A1,c1,rfl,r1,p1⟩:=Qeh h.tags (by simp[De]) hg;obtain⟨A2,c2,rfl,r2,p2⟩:=Qeh h.row (by simp[E8]) hx;have hB:=h.hB;exact .mk kind text gs A1 A2 c1 c2 xs rfl h.lt (Ar _) h.c0 h.c1 h.c2 h.c3 r1 r2 hg hx (fun g o hn e=>by have:=p1 g o hn e;omega) (fun g o hn e=>by have:=p2 g o hn e;omega) fun x hx=>(h.kids x hx).mono fun c hc _=>by have:=hc.1;omega
theorem Fk.new{W:World}{T:TypeId}(h0 h1:Value):Fk (W.heap.size+1) W.heap.size (W.alloc (.cells #[h0,h1,.slice none 0 0,.slice none 0 0] T)) h0 h1 (.slice none 0 0) (.slice none 0 0) (.slice none 0 0) (.slice none 0 0) [] []:=
 ⟨by simp,by simp,by omega,Pi.new _ _ _,by simp[go_sem],by simp[go_sem],by simp[go_sem],by simp[go_sem],World.ownsRow_nil _ _ _ _,World.ownsRow_nil _ _ _ _,by simp⟩
section
attribute [local go_sem] Qo1 Qof Qnv Qlx ByteArray.mk_append_mk
theorem Qkg(P:Nat->Prop)(b:Nat)(kr:List UInt8)(g:Nat)(w:World)(h:Gx P w b (.mk (64::kr) [69] [g] []))(hkr:kr.length<=100)(hg:g<=200):Calls prog 22 #[b] w (Jk (35::Bb g) w):=by
 obtain⟨A1,A2,c1,c2,xs,hb,_,h0,ht,h2,_,hr1,_⟩:=h.open_;obtain⟨b6,o6,rfl,hb6,hc6⟩:=hr1.at_ (show 0<1 by decide);simp[De]at hc6 h2;have Hd:=Aa (fun W=>Jd g g W (Ar _) aG);have hdl:=C0 2 g cq
 have HN:=Aa (show Calls prog 51 #[b] w (Jk (35::Bb g) w)from by
  clear h h0 hr1;go_enter func51,ntmps51;go_wp2_with fail;refine(Hd.o _).mono ?_;rintro e w3 ⟨rfl,hb3⟩;have Hb3:=Aa hb3;clear hb3;go_wp2_with fail;go_ret;exact⟨rfl,Hb3.o⟩)
 clear h ht h2 hr1 Hd hc6;go_enter func22,ntmps22;go_wp2_with fail;refine HN.o.mono ?_;rintro e w3 ⟨rfl,hb3⟩;have Hb3:=Aa hb3;clear hb3;go_wp2_with fail;exact m9
theorem Qj9(P:Nat->Prop)(b:Nat)(kr:List UInt8)(g:Nat)(y:SV)(px:List UInt8)(w:World)(h:Gx P w b (.mk (64::kr) [85] [g] [y]))(hkr:kr.length<=100)(hg:g<=200)(hpl:px.length<=100000000)
  (ih:∀b W,Gx P W b y->Calls prog 22 #[.pointer (some ⟨b,0,none⟩)] W (Jk px W)):
  Calls prog 22 #[.pointer (some ⟨b,0,none⟩)] w (Jk (60::(Bb g++61::(px++[62]))) w):=by
 obtain⟨A1,A2,c1,c2,xs,hb,_,h0,ht,h2,h3,hr1,hr2,_,_,hkk,hk⟩:=h.open_;obtain⟨⟨bx,y'⟩,rfl⟩:∃a,xs=[a]:=by
  cases xs with
  |nil=>simp at hkk
  |cons a l=>cases l with
   |nil=>exact⟨a,rfl⟩
   |cons b l=>simp at hkk
 obtain rfl:y=y':=by simpa using hkk
 obtain⟨b6,o6,rfl,hb6,hc6⟩:=hr1.at_ (show 0<1 by decide);obtain⟨b8,o8,rfl,hb8,hc8⟩:=hr2.at_ (show 0<1 by decide);simp[De]at hc6 h2;simp[E8]at hc8 h3;have Hd:=Aa (fun W=>Jd g g W (Ar _) aG);have hdl:=C0 2 g cq;have HX:=Aa (fun W (hW:Below w w W)=>ih bx W ((hk (bx,y) aL).after hW));have C6:=Aa hc6;have C8:=Aa hc8;have C2:=Aa h2;have C3:=Aa h3
 have HN:=Aa (show Calls prog 51 #[.pointer (some ⟨b,0,none⟩)] w (Jk (60::(Bb g++61::(px++[62]))) w)from by
  clear h h0 hr1 hr2 hk hkk ih;go_enter func51,ntmps51;go_wp2_with fail;clear h2 h3 hc6 hc8;refine Qr [11,12,13,14,15,16,17,18,19,20,21,22,23,24,25,26,27,28,2]
   (fun ix v W=>match ix with|0=>v=.pointer (some ⟨b,0,none⟩)|1=>v=.pointer (some ⟨b,0,none⟩)|2=>v=.pointer (some ⟨b,2,none⟩)|3=>v=.slice (some ⟨b6,o6,none⟩) 1 c1|4=>v=.pointer (some ⟨b6,o6,none⟩)|5=>v=(g:Int)|6=>v=(Bb g:List UInt8)|7=>v=(60::Bb g:List UInt8)|8=>v=.string ⟨(60::(Bb g++[61]):List UInt8).toArray⟩|9=>v=.pointer (some ⟨b,0,none⟩)|10=>v=.pointer (some ⟨b,0,none⟩)|11=>v=.pointer (some ⟨b,3,none⟩)|12=>v=.slice (some ⟨b8,o8,none⟩) 1 c2|13=>v=.pointer (some ⟨b8,o8,none⟩)|14=>v=bx|15=>v=(px:List UInt8)|16=>v=.string ⟨(60::(Bb g++61::px):List UInt8).toArray⟩|17=>v=.string ⟨(60::(Bb g++61::(px++[62])):List UInt8).toArray⟩|18=>v=.string ⟨(60::(Bb g++61::(px++[62])):List UInt8).toArray⟩|_=>True)
   (fun L U W=>Below w w W) ((Aw _ _).drew) ?_ ?_
  ·repeat (first|exact Av.nil|(refine Av.cons ?_ ?_;rotate_left))
   all_goals
    rintro L U W hL hpre HR Hdep K hK;have hB:=HR.o;have d2:=(hB.cell (p:=⟨b,2,none⟩) hb).trans C2.o;have d3:=(hB.cell (p:=⟨b,3,none⟩) hb).trans C3.o;have d6:=(hB.cell (p:=⟨b6,o6,none⟩) hb6).trans C6.o;have d8:=(hB.cell (p:=⟨b8,o8,none⟩) hb8).trans C8.o;first|(simp[Region.binds]at hpre;done)|simp[Region.binds]at hpre|clear hpre
   iterate 6
    ·exact ir
   ·exact jg
   ·exact iD
   ·exact iD
   iterate 6
    ·exact ir
   ·go_simp;refine(HX.o W hB).mono ?_;rintro e w3 ⟨rfl,hb3⟩;exact hK _ _ _ rfl Ac (hB.trans (hb3.mono hB.size)) aI
   ·exact iD
   ·exact iD
   ·exact ir
  rintro L U W hL hφ hR;have e18:U 18=.string ⟨(60::(Bb g++61::(px++[62])):List UInt8).toArray⟩:=hφ 18 aJ;simp only[e18];clear hφ;have Hb9:=Aa hR;clear hL hR;go_wp2_with fail;go_ret;exact⟨rfl,Hb9.o⟩)
 clear h ht h2 h3 hr1 hr2 Hd hc6 hc8 hk hkk ih HX C6 C8 C2 C3;go_enter func22,ntmps22;go_wp2_with fail;refine HN.o.mono ?_;rintro e w3 ⟨rfl,hb3⟩;have Hb3:=Aa hb3;clear hb3;go_wp2_with fail;exact m9
theorem Qkz(P:Nat->Prop)(b:Nat)(kr:List UInt8)(kids:List SV)(ps:List (Fd × Vl))(w:World)(h:Gx P w b (.mk (64::kr) [82] (ps.map fun p=>p.1.tag) kids))(hkr:kr.length<=100)(hl:(Ay (.mk 82 [] 0 (ps.map C5))).length<=100000000)(hkl:kids.length=ps.length)
  (htg:∀p∈ps,p.1.tag<=200) (ih:∀(i:Nat) (hi:i<kids.length) (hi2:i<ps.length) b W,Gx P W b kids[i]->(Ay ps[i].2).length<=100000000->Calls prog 22 #[.pointer (some ⟨b,0,none⟩)] W (Jk (Ay ps[i].2) W)):
  Calls prog 22 #[.pointer (some ⟨b,0,none⟩)] w (Jk (Ay (.mk 82 [] 0 (ps.map C5))) w):=by
 obtain⟨A1,A2,c1,c2,xs,hb,_,h0,ht,h2,h3,hr1,hr2,_,hxl,rfl,hk⟩:=h.open_;have HF:=Aa (No ps);have hjl:(Am 44 (ps.map fun p=>Ay (C5 p))).length<=100000000:=by rw[No]at hl;simp at hl;omega
 rw[Bg]at hjl
 have Hjt:=Aa (fun i (hi:i<ps.length)=>(show Cq ((ps.take (i+1)).map fun p=>Ay (C5 p))<=Cq (ps.map fun p=>Ay (C5 p))/\(Ay (C5 ps[i])).length+1+Cq ((ps.take i).map fun p=>Ay (C5 p))=Cq ((ps.take (i+1)).map fun p=>Ay (C5 p))from by
  refine⟨?_,?_⟩
  ·conv=>rhs;rw[<-List.take_append_drop (i+1) ps,ay]
   exact lM
  rw[Bx ps i hi,ay];simp[Cq];omega))
 have hkl2:xs.length=ps.length:=by simpa using hkl
 have Ih:=Aa ih;have Hr1:=Aa hr1;have Hr:=Aa hr2;have Hk:=Aa hk;have Hkl:=Aa hkl2;have Hlen:=Aa hjl;have Htg:=Aa htg;have C2:=Aa (show w.cell? ⟨b,2,none⟩=some (.slice A1 ps.length c1)by simpa using h2);have hle:ps.length<=xs.length:=aG
 have HN:=Aa (show Calls prog 51 #[.pointer (some ⟨b,0,none⟩)] w (Jk (Ay (.mk 82 [] 0 (ps.map C5))) w)from by
  clear hkl hkl2 ih hr1 hr2 hk h hl hjl h0 h2 htg;go_enter func51,ntmps51;go_wp2_with fail;go_loopw [4,3] (fun i s wr=>∃m:Nat,i=.int .i64 m/\m<=xs.length/\s=.string ⟨(123::Am 44 ((ps.take m).map fun p=>Ay (C5 p)):List UInt8).toArray⟩/\Hid (Below w w wr)) (fun i _ _=>xs.length - (intOf i).toNat)
  case atStart=>exact⟨0,rfl,ag _,rfl,Aw _ _⟩
  case round=>
   obtain⟨m,rfl,hm,rfl,Hbr⟩:=hrel;have m1:(0:Int)<=(m:Int):=aG;have g3:=(Hbr.o.cell (p:=⟨b,3,none⟩) hb).trans h3;have hbw:b<wr.heap.size:=eX;have HJ:=Aa (Bg 44 ((ps.take m).map fun p=>Ay (C5 p)));by_cases hlt:m<xs.length
   ·have m2:(m:Int)<(xs.length:Int):=aG;have hltk:m<ps.length:=fG;have m2':(m:Int)<(ps.length:Int):=aG;obtain⟨b8,o8,rfl,hb8,hc8⟩:=(Hr.o.below Hbr.o).at_ hlt;rw[So hlt]at hc8;obtain⟨b6,o6,e6,hb6,hc6⟩:=(Hr1.o.below Hbr.o).at_ (show m<(ps.map fun p=>p.1.tag).length by simpa using hltk);rw[Qgn (by simpa using hltk),List.getElem_map]at hc6;subst e6;obtain⟨q1,q2⟩:=Hjt.o m hltk;have hfl:=J8 ps[m];have hjm:(Am 44 ((ps.take m).map fun p=>Ay (C5 p))).length<=100000000:=by rw[HJ.o];have:=Hlen.o;omega
    have hpm:(Ay ps[m].2).length<=100000000:=by have:=Hlen.o;omega
    have HX:=Aa (fun W (hW:Below w w W)=>Ih.o m (by simpa using hlt) hltk xs[m].1 W fP hpm);have hgt:=Htg.o _ (ae hltk);have Hd:=Aa (fun W=>Jd ps[m].1.tag ps[m].1.tag W (Ar _) aG);have hdl:=C0 2 ps[m].1.tag cq
    have HP:=Aa (show Am 44 ((ps.take (m+1)).map fun p=>Ay (C5 p))=(if m=0 then[]else Am 44 ((ps.take m).map fun p=>Ay (C5 p))++[44])++(Bb ps[m].1.tag++61::Ay ps[m].2)from by
     rw[Bx ps m hltk,ay,List.map_singleton,Vi];have:((ps.take m).map fun p=>Ay (C5 p)).length=m:=aO;rw[this,show Ay (C5 ps[m])=Bb ps[m].1.tag++61::Ay ps[m].2 by simp[C5,Ay,Di,Fa,Am]];by_cases h0:m=0
     ·rw[if_pos h0,if_pos h0];rfl
     rw[if_neg h0,if_neg h0];simp)
    have HP0:=@Aa (m=0->Am 44 ((ps.take m).map fun p=>Ay (C5 p))=[]) (by rintro rfl;rfl);clear q1 q2 hfl;generalize Ay ps[m].2=pm at *;generalize Am 44 ((ps.take m).map fun p=>Ay (C5 p))=jm at *;generalize xs[m].1=bm at *;generalize ps[m].1.tag=gm at *;obtain⟨acc,hacc⟩:∃acc:List UInt8,acc=if m=0 then 123::jm else 123::(jm++[44]):=⟨_,rfl⟩
    have hal:acc.length<=100000002:=by rw[hacc];split<;>simp<;>omega
    have HPn:=Aa (show (123::Am 44 ((ps.take (m+1)).map fun p=>Ay (C5 p)):List UInt8)=acc++(Bb gm++61::pm)from by
     rw[HP.o,hacc];by_cases h0:m=0
     ·rw[if_pos h0,if_pos h0,HP0.o h0];rfl
     rw[if_neg h0,if_neg h0];simp)
    have C8:=Aa hc8;have C6:=Aa hc6;have hzr:=Hbr.o.size;by_cases h0m:m=0
    ·have t0:¬(0<m):=aG;have t1:¬((0:Int)<(m:Int)):=aG;have hA:=hacc.trans (if_pos h0m);have HA:=Aa hA;clear h0m HP HP0 HJ hacc hA hc8 hc6;go_wp2_with fail;rw[<-HA.o];refine rgE [52,53,54,55,56,57,58,59,60,61,62,63,64,65,66,67,68,69,70,71,3]
      (fun ix v W=>match ix with|0=>v=(acc:List UInt8)|1=>v=.pointer (some ⟨b,0,none⟩)|2=>v=.pointer (some ⟨b,0,none⟩)|3=>v=.pointer (some ⟨b,2,none⟩)|4=>v=.slice (some ⟨b6,o6,none⟩) ps.length c1|5=>v=(m:Int)|6=>v=.pointer (some ⟨b6,o6+m,none⟩)|7=>v=(gm:Int)|8=>v=(Bb gm:List UInt8)|9=>v=(acc++Bb gm:List UInt8)|10=>v=.string ⟨(acc++(Bb gm++[61]):List UInt8).toArray⟩|11=>v=.pointer (some ⟨b,0,none⟩)|12=>v=.pointer (some ⟨b,0,none⟩)|13=>v=.pointer (some ⟨b,3,none⟩)|14=>v=.slice (some ⟨b8,o8,none⟩) xs.length c2|15=>v=(m:Int)|16=>v=.pointer (some ⟨b8,o8+m,none⟩)|17=>v=bm|18=>v=(pm:List UInt8)|19=>v=.string ⟨(acc++(Bb gm++61::pm):List UInt8).toArray⟩|20=>v=.string ⟨(acc++(Bb gm++61::pm):List UInt8).toArray⟩|_=>True)
      (fun L U W=>Below wr wr W) ((Aw _ _).drew) ?_ ?_
     ·exact iy
     rintro L U W hL hφ hR;have e20:U 20=.string ⟨(acc++(Bb gm++61::pm):List UInt8).toArray⟩:=hφ 20 aJ;simp only[e20];clear hφ;have Hb9:=Aa (Hbr.o.trans (hR.mono hzr));clear hL hR;go_wp2_with fail;go_roundw
     case rel=>exact⟨m+1,by go_num,by omega,by rw[HPn.o],Hb9.o⟩
     case measure=>simp[intOf];omega
    have t0:0<m:=aG;have t1:(0:Int)<(m:Int):=aG;have hA:=hacc.trans (if_neg h0m);have HA:=Aa hA;clear h0m HP HP0 HJ hacc hA hc8 hc6;go_wp2_with fail;have HA2:=@Aa ((123::(jm++[44]):List UInt8)=acc) HA.o.symm;first|rw[HA2.o]|(simp only[au];rw[HA2.o])
    refine rgE [52,53,54,55,56,57,58,59,60,61,62,63,64,65,66,67,68,69,70,71,3]
     (fun ix v W=>match ix with|0=>v=(acc:List UInt8)|1=>v=.pointer (some ⟨b,0,none⟩)|2=>v=.pointer (some ⟨b,0,none⟩)|3=>v=.pointer (some ⟨b,2,none⟩)|4=>v=.slice (some ⟨b6,o6,none⟩) ps.length c1|5=>v=(m:Int)|6=>v=.pointer (some ⟨b6,o6+m,none⟩)|7=>v=(gm:Int)|8=>v=(Bb gm:List UInt8)|9=>v=(acc++Bb gm:List UInt8)|10=>v=.string ⟨(acc++(Bb gm++[61]):List UInt8).toArray⟩|11=>v=.pointer (some ⟨b,0,none⟩)|12=>v=.pointer (some ⟨b,0,none⟩)|13=>v=.pointer (some ⟨b,3,none⟩)|14=>v=.slice (some ⟨b8,o8,none⟩) xs.length c2|15=>v=(m:Int)|16=>v=.pointer (some ⟨b8,o8+m,none⟩)|17=>v=bm|18=>v=(pm:List UInt8)|19=>v=.string ⟨(acc++(Bb gm++61::pm):List UInt8).toArray⟩|20=>v=.string ⟨(acc++(Bb gm++61::pm):List UInt8).toArray⟩|_=>True)
     (fun L U W=>Below wr wr W) ((Aw _ _).drew) ?_ ?_
    ·exact iy
    rintro L U W hL hφ hR;have e20:U 20=.string ⟨(acc++(Bb gm++61::pm):List UInt8).toArray⟩:=hφ 20 aJ;simp only[e20];clear hφ;have Hb9:=Aa (Hbr.o.trans (hR.mono hzr));clear hL hR;go_wp2_with fail;go_roundw
    case rel=>exact⟨m+1,by go_num,by omega,by rw[HPn.o],Hb9.o⟩
    case measure=>simp[intOf];omega
   ·have em:m=ps.length:=fG;have HE:=Aa (show Am 44 ((ps.take m).map fun p=>Ay (C5 p))=Am 44 (ps.map fun p=>Ay (C5 p))by rw[em,List.take_length]);have hjm:(Am 44 ((ps.take m).map fun p=>Ay (C5 p))).length<=100000000:=by rw[HE.o,Bg];exact Hlen.o
    clear em HJ;generalize Am 44 ((ps.take m).map fun p=>Ay (C5 p))=jm at *;go_wp2_with fail;go_ret;exact⟨by rw[HF.o,<-HE.o];rfl,Hbr.o⟩)
 clear h ht h2 h3 hr1 hr2 hk hkl hkl2 ih Ih Hr1 Hr Hk hl hjl htg;go_enter func22,ntmps22;go_wp2_with fail;refine HN.o.mono ?_;rintro e w3 ⟨rfl,hb3⟩;have Hb3:=Aa hb3;clear hb3;go_wp2_with fail;exact m9
theorem Yu{S:List Ty}(hT:∀t∈S,Do t)(P:Nat->Prop):∀(d:Nat) (k:Kd) (v:Vl),Gb S d k v->Ch k->∀(b:Nat) (w:World),Gx P w b (Cj S k v)->(Ay v).length<=100000000->Calls prog 22 #[b] w (Jk (Ay v) w):=by
 intro d;induction d with
 |zero=>intro k v h;cases h
 |succ d ih=>
  intro k v h hk b w hw hl;have hkl:=hk.2.2;cases h with
  |@n _ _ m hs hb h=>
   rw[Qcf,show Bt k=[110]by unfold Bt Cr;rw[hs,hb];rfl]at hw;rw[show Ay (.mk 110 (Bb m) 0 [])=Bb m by simp[Ay,Di,Fa]];exact Se P b 110 _ w (.inl rfl) hw
  |@t _ _ s hs hb h=>
   rw[Za,show Bt k=[116]by unfold Bt Cr;rw[hs,hb];rfl]at hw;rw[show Ay (.mk 116 s 0 [])=39::(s++[39])by simp[Ay,Di,Fa]];exact Se P b 116 _ w (.inr (.inl rfl)) hw
  |@f _ _ x hs hb=>
   rw[Yd,show Bt k=[102]by unfold Bt Cr;rw[hs,hb];rfl]at hw;rw[show Ay (.mk 102 (if x then Eh else Mb) 0 [])=(if x then Eh else Mb)by simp[Ay,Di,Fa]];exact Se P b 102 _ w (.inr (.inr rfl)) hw
  |@lst _ _ r ks hs hl2 h=>
   have e:Bt k=91::(r++Cr k):=dW;rw[Td,e]at hw;rw[e]at hkl;refine Qka P b _ _ ks w hw da hl aL fun i hi hi2 b W hW hl3=>?_;rw[List.getElem_map]at hW;exact ih _ _ (h _ (ae hi2)) (Kb hk).1 b W hW hl3
  |@non _ _ r hs=>
   have e:Bt k=63::(r++Cr k):=dW;rw[Ph,e]at hw;rw[e]at hkl;exact Qdd P b _ _ none w hw da hl rfl aL
  |@som _ _ r x hs h=>
   have e:Bt k=63::(r++Cr k):=dW;rw[Ph,e]at hw;rw[e]at hkl;have hl3:(Ay x).length<=100000000:=by have:=hl;simp[Ay,Di,Fa,Am]at this;omega
   refine Qdd P b _ _ (some x) w hw da hl rfl fun y hy b W z hz hW=>?_;injection hy with hy;subst hy;simp at hz;subst hz;exact ih _ _ h (Kb hk).1 b W hW hl3
  |@enm _ _ t f hs hb ht h9 hf=>
   have e:Bt k=64::(k.name++[59]):=dE;rw[Th,e]at hw;rw[e]at hkl;rw[show Ay (.mk 69 [] f.tag [])=35::Bb f.tag by simp[Ay,Di,Fa]];exact Qkg P b _ f.tag w hw da ((hT t (Be ht).1).2.2.1.1 f (Bi hf).2).2.1
  |@uni _ _ t f x hs hb ht h5 hf h=>
   have e:Bt k=64::(k.name++[59]):=dE;rw[Qu,e,Cv ht hf]at hw;rw[e]at hkl;have hkf:=Py hT ht cY (Bi hf).2;have e2:Ay (.mk 85 [] f.tag [x])=60::(Bb f.tag++61::(Ay x++[62])):=by simp[Ay,Di,Fa,Am]
   rw[e2]at hl ⊢;have hl3:(Ay x).length<=100000000:=by simp at hl;omega
   exact Qj9 P b _ f.tag _ (Ay x) w hw da hkf.2 hl3 fun b W hW=>ih _ _ h hkf.1 b W hW hl3
  |@rcd _ _ t fs hs hb ht h2 hf h hn hp=>
   have e:Bt k=64::(k.name++[59]):=dE;rw[Sw,e]at hw;rw[e]at hkl;have hkf:=fun p (hp:p∈fs)=>Py hT ht cj (Bi (hf p hp)).2;refine Qkz P b _ _ fs w hw da hl aL (fun p hp=>(hkf p hp).2) fun i hi hi2 b W hW hl3=>?_;have hm:=ae hi2;rw[List.getElem_map,Cv ht (hf _ hm)]at hW;exact ih _ _ (h _ hm) (hkf _ hm).1 b W hW hl3
theorem Qko{S:List Ty}(hT:∀t∈S,Do t)(P:Nat->Prop):∀(d:Nat) (k:Kd) (v:Vl),Gb S d k v->Ch k->∀(b:Nat) (w:World),Gx P w b (Cj S k v)->(Ay v).length<=1000000->Calls prog 22 #[b] w (Jk (Ay v) w):=
 fun d k v h1 h2 b w h3 h4=>Yu hT P d k v h1 h2 b w h3 (ad h4 aJ)
end
end Go.Proofs.YtkigmebejmmikaaGreatDoor
