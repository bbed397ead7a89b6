/- Texts joined. Conditions: as each theorem names them. -/
import Derived.Test.YtkigmebejmmikaaGreatDoorQ02
import Derived.Test.YtkigmebejmmikaaGreatDoorQ03
import Derived.Test.YtkigmebejmmikaaGreatDoorQ04
import Derived.Test.YtkigmebejmmikaaGreatDoorQ07
import Derived.Test.YtkigmebejmmikaaGreatDoorQ08
import Derived.Test.YtkigmebejmmikaaGreatDoorQ10
import Derived.Test.YtkigmebejmmikaaGreatDoorQ11
set_option maxRecDepth 100000
set_option maxHeartbeats 32000000
set_option linter.unusedVariables false
set_option linter.unusedSimpArgs false
namespace Go.Proofs.YtkigmebejmmikaaGreatDoor
open Go.RowKit Go.Proofs.Tryz
section
attribute [local go_sem] Qja Qit Qib Qgw ByteArray.mk_append_mk
def txV(o:Option (List UInt8)):Value:=.tuple #[.string ⟨(o.getD []).toArray⟩,.bool o.isSome]
def TxQ(o:Option (List UInt8))(w:World)(e:Ending)(w':World):Prop:=e=.returned (txV o)/\Below w.heap.size w w'
def H6:List (Option (List UInt8))->Option (List (List UInt8))
 |[]=>some []
 |none::_=>none
 |some p::l=>(H6 l).map (p :: ·)
theorem Qt:∀(fs:List (List UInt8)),H6 (fs.map some)=some fs
 |[]=>rfl
 |p::fs=>by rw[List.map_cons,H6,Qt fs];rfl
theorem Vz:∀{os:List (Option (List UInt8))},none∈os->H6 os=none
 |none::_,_=>rfl
 |some p::l,h=>by
  rw[H6,Vz (os:=l) (by simpa using h)];rfl
def M0(kd:List UInt8):Bool:=decide (kd.take 2=[63,63])
theorem Qdr(kd:List UInt8)(w:World):Calls prog 31 #[.string ⟨kd.toArray⟩] w fun e w'=>e=.returned (.bool (M0 kd))/\w'=w:=by
 by_cases h1:1<kd.length
 ·have t1:(1:Int)<(kd.length:Int):=by omega
  have t2:(2:Int)<=(kd.length:Int):=by omega
  have t3:(kd.take 2 == [63,63])=M0 kd:=by unfold M0;by_cases e:kd.take 2=[63,63]<;>simp[e]
  generalize M0 kd=z at *
  go_enter func31,ntmps31
  go_wp2_with fail
  go_ret
  exact⟨by first|rfl|rw[t3],rfl⟩
 have t1:¬(1:Int)<(kd.length:Int):=by omega
 have t3:M0 kd=false:=by
  unfold M0
  rw[decide_eq_false_iff_not]
  intro e
  have:=congrArg List.length e
  simp at this
  omega
 rw[t3]
 clear t3 h1
 go_enter func31,ntmps31
 go_wp2_with fail
 go_ret
 exact⟨rfl,rfl⟩
def nmO(kind text:List UInt8)(os:List (Option (List UInt8)))(R:Option (List UInt8)):Option (List UInt8):=
 if M0 kind=true then none else match H6 os with
 |none=>none
 |some fs=>if kind.head?=some 91 then some (91::(Ak 44 fs++[93]))else if kind.head?=some 63 then some (match fs with|[]=>V7|p::_=>p)else if kind.head?=some 64 then R else some text
theorem Xa{n:Nat}(l:List (List UInt8))(h:∀p∈l,p.length<=n):(Ak 44 l).length<=l.length*(n+1):=by
 have:∀l:List (List UInt8),(∀p∈l,p.length<=n)->Cu l<=l.length*(n+1):=by
  intro l
  induction l with
  |nil=>simp[Cu]
  |cons p l ih=>
   intro h
   rw[Cv,List.length_cons,Nat.succ_mul]
   have:=h p (by simp)
   have:=ih fun q hq=>h q (by simp[hq])
   omega
 rw[Bb]
 have:=this l h
 omega
theorem Nl(P:Nat->Prop)(b:Nat)(k0:UInt8)(kr text:List UInt8)(tags:List Nat)(kids:List SV)(xv:Value)(hx1:∃A n c,xv=.slice A n c)(w:World)(h:Ga P w b (.mk (k0::kr) text tags kids))(os:List (Option (List UInt8)))(hos:os.length=kids.length)
  (hp:∀p,some p∈os->p.length<=10000) (hkl:kids.length<=20)
  (HK:∀i (hi:i<kids.length) (o:Option (List UInt8)),os[i]?=some o->∀c W,Below w.heap.size w W->Ga P W c kids[i]->Calls prog 16 #[.agg #[xv],.pointer (some ⟨c,0,none⟩)] W (TxQ o W))
  (R:Option (List UInt8)) (HT:k0=64->∀fs,os=fs.map some->∀A c W,Below w.heap.size w W->Bh W A fs.length (Ae fs)->Calls prog 33 #[.agg #[xv],.pointer (some ⟨b,0,none⟩),.slice A fs.length c] W (TxQ R W)):
  Calls prog 16 #[.agg #[xv],.pointer (some ⟨b,0,none⟩)] w (TxQ (nmO (k0::kr) text os R) w):=by
 obtain⟨A9,n9,c9,rfl⟩:=hx1
 obtain⟨A1,A2,c1,c2,xs,hbl,_,h0,h1,h2,h3,r1,r2,_,_,rfl,hks⟩:=h.open_
 have hxl:xs.length=os.length:=by rw[hos,List.length_map]
 have hx20:xs.length<=20:=by rw[List.length_map]at hkl;exact hkl
 obtain⟨w1,hw1⟩:∃w1,w1=w.alloc (.cells #[.slice A9 n9 c9] 35):=⟨_,rfl⟩
 have hb1:Below w.heap.size w w1:=by rw[hw1];exact(As _ _).alloc (Ap _) _
 have y0:w1.cell? ⟨w.heap.size,0,none⟩=some (.slice A9 n9 c9):=by rw[hw1];simp
 have l0:w.heap.size<w1.heap.size:=by rw[hw1];simp
 have g0:=h0
 have hbn:¬(b=w.heap.size):=by omega
 replace h0:=(hb1.cell (p:=⟨b,0,none⟩) hbl).trans h0
 replace h1:=(hb1.cell (p:=⟨b,1,none⟩) hbl).trans h1
 replace h3:=(hb1.cell (p:=⟨b,3,none⟩) hbl).trans h3
 have hbl1:b<w1.heap.size:=by omega
 have Hb1:=Aa hb1
 have Hw1:=Aa hw1
 have Hr2:=Aa (r2.below hb1)
 have HK:=Aa (fun i (hi:i<xs.length) (o:Option (List UInt8)) (ho:os[i]?=some o) (W:World) (hW:Below w1.heap.size w1 W)=>HK i (by simpa using hi) o ho (xs[i]'hi).1 W (hb1.trans (hW.mono hb1.size)) (by
  have:=(hks (xs[i]'hi) (List.getElem_mem hi)).after (hb1.trans (hW.mono hb1.size))
  simpa using this))
 have HT:=Aa HT
 have Hp:=Aa hp
 clear h hw1 hb1 h2 r1 r2 hks hos hp hkl
 have Hsn:=Aa (fun W=>Qdr (k0::kr) W)
 cases hn:M0 (k0::kr)with
 |true=>
  rw[hn]at Hsn
  have HO:=Aa (show nmO (k0::kr) text os R=none by unfold nmO;rw[if_pos hn])
  clear hn
  go_enter func16,ntmps16
  go_wp2_with fail
  generalize hwg:World.alloc w _=wg
  obtain rfl:w1=wg:=Hw1.o.trans hwg
  clear hwg g0 hbn
  refine(Hsn.o _).mono ?_
  rintro e w2 ⟨rfl,rfl⟩
  go_wp2_with fail
  go_ret2
  exact⟨by rw[HO.o];rfl,Hb1.o⟩
 |false=>
  rw[hn]at Hsn
  have HO:=Aa (show nmO (k0::kr) text os R=_ from if_neg (by rw[hn];decide))
  clear hn
  go_enter func16,ntmps16
  go_wp2_with fail
  generalize hwg:World.alloc w _=wg
  obtain rfl:w1=wg:=Hw1.o.trans hwg
  clear hwg g0 hbn
  refine(Hsn.o _).mono ?_
  rintro e w2 ⟨rfl,rfl⟩
  go_wp2_with fail
  generalize hw3:World.alloc w2 _=w3
  have hb3:Below w2.heap.size w2 w3:=by rw[<-hw3];exact(As _ _).alloc (Ap _) _
  have ho3:w3.ownsRow w2.heap.size 9 1 (.slice (some ⟨w2.heap.size,0,none⟩) 0 0) 0 (Ae []):=by rw[<-hw3];exact Mc w2 _ _ (Ap _)
  have Hb3:=Aa hb3
  have Ho3:=Aa ho3
  clear hw3 hb3 ho3 Hsn
  go_loopw [7,6,8,9] (fun i u y z wr=>∃(m:Nat) (A3:Option Addr) (n3 q3:Nat) (fs:List (List UInt8)),i=.int .i64 m/\u=.slice A3 n3 q3/\m<=xs.length/\Hid (wr.ownsRow w2.heap.size 9 1 (.slice A3 n3 q3) m (Ae fs))/\Hid (os.take m=fs.map some)/\Hid (Below w2.heap.size w2 wr)) (fun i _ _ _ _=>xs.length - (intOf i).toNat)
  case atStart=>exact⟨0,_,0,0,[],rfl,rfl,Nat.zero_le _,Ho3.o,rfl,Hb3.o⟩
  case round=>
   obtain⟨m,A3,n3,q3,fs,rfl,rfl,hm,Hog,Hfs,Hbr⟩:=hrel
   have m1:(0:Int)<=(m:Int):=by omega
   have hsz:w2.heap.size<=wr.heap.size:=Hbr.o.size
   have e0:=(Hbr.o.cell (p:=⟨b,0,none⟩) hbl1).trans h0
   have e1:=(Hbr.o.cell (p:=⟨b,1,none⟩) hbl1).trans h1
   have e3:=(Hbr.o.cell (p:=⟨b,3,none⟩) hbl1).trans h3
   have ey:=(Hbr.o.cell (p:=⟨w.heap.size,0,none⟩) l0).trans y0
   have lb:b<wr.heap.size:=by omega
   have lw:w.heap.size<wr.heap.size:=by omega
   by_cases hlt:m<xs.length
   ·have m2:(m:Int)<(xs.length:Int):=by omega
    obtain⟨b6,o6,rfl,hb6,hc6⟩:=(Hr2.o.below Hbr.o).at_ hlt
    replace hc6:wr.cell? ⟨b6,o6+m,none⟩=some (.pointer (some ⟨xs[m].1,0,none⟩)):=by rw[hc6,Ps hlt]
    have hml:m<os.length:=by omega
    have HX:=Aa (fun W (hW:Below wr.heap.size wr W)=>HK.o m hlt _ (List.getElem?_eq_getElem hml) W (Hbr.o.trans (hW.mono hsz)))
    have Hts:=Aa (Bn os m hml)
    have Hmem:=Aa (List.getElem_mem hml)
    generalize os[m]=om at *
    generalize xs[m].1=bm at *
    unfold TxQ txV at HX
    cases om with
    |none=>
     have HO2:=Aa (HO.o.trans (by rw[Vz Hmem.o]))
     simp only[Option.getD_none,Option.isSome_none]at HX
     go_wp2_with fail
     refine rgB ?_
     iterate 8 refine sq ?_
     refine sqC HX.o ?_
     iterate 5 refine sq ?_
     refine dnB fun w5 HB=>?_
     have Hb5:=Aa (Hb1.o.trans ((Hbr.o.trans (HB.o.mono hsz)).mono Hb1.o.size))
     clear HB e0 e1 e3 ey hc6 HX
     go_wp2_with fail
     go_ret2
     exact⟨by rw[HO2.o];rfl,Hb5.o⟩
    |some p=>
     simp only[Option.getD_some,Option.isSome_some]at HX
     go_wp2_with fail
     refine rgB ?_
     iterate 8 refine sq ?_
     refine sqC HX.o ?_
     iterate 5 refine sq ?_
     refine dnB fun w5 HB=>?_
     have Hb5:=Aa HB.o
     have Ho5:=Aa (Bf Hog.o HB.o)
     have hs5:w2.heap.size<=w5.heap.size:=Nat.le_trans hsz HB.o.size
     clear HB e0 e1 e3 ey hc6 HX
     go_wp2_with (at_builtin;refine Gt _ rfl _ _ 63 rfl w2.heap.size 9 (.string ⟨#[]⟩) 16 underlying63 Dl rfl w5 (.string ⟨p.toArray⟩) rfl rfl (.slice A3 n3 q3) m (Ae fs) rfl rfl Ho5.o (by unfold maxLen;omega) (by omega) hs5 ?_;intro v' w6 hown6 hb6;obtain⟨A5,n5,c5,rfl⟩:=H8 hown6;have Ho:=Aa hown6;have Hb6:=Aa hb6;clear hown6 hb6)
     go_roundw
     case rel=>exact⟨m+1,A5,n5,c5,fs++[p],by go_num,rfl,by omega,(by rw[Fx];exact Ho.o),(by show _=_;rw[Hts.o,Hfs.o];simp),(Hbr.o.trans (Hb5.o.mono hsz)).trans Hb6.o⟩
     case measure=>simp[intOf];omega
   ·obtain rfl:m=xs.length:=by omega
    have hfs:os=fs.map some:=by
     have:=Hfs.o
     rwa [List.take_of_length_le (by omega)]at this
    have hfl:fs.length=xs.length:=by rw[hxl,hfs,List.length_map]
    have hpl:∀p∈fs,p.length<=10000:=fun p hp=>Hp.o p (by rw[hfs];exact List.mem_map.2 ⟨p,hp,rfl⟩)
    have hjl:=Xa fs hpl
    rw[hfl]at hjl
    have hown6:=Hog.o
    obtain⟨A6,c6,e6,hr6⟩:=Bh.own hown6
    injection e6 with e7 e8 e9
    subst e7 e8 e9
    have HO:=Aa (HO.o.trans (by rw[hfs,Qt]))
    simp only[List.head?_cons,Option.some.injEq]at HO
    have HJ:=Aa (fun W (hW:Below wr.heap.size wr W)=>V0 A3 q3 fs W (by rw[hfl];exact hr6.below hW) (by omega) hpl)
    rw[hfl]at HJ
    have Hr6:=Aa hr6
    have Hf:=Aa hfs
    have Hfl:=Aa hfl
    have Hbw:=Aa (Hb1.o.trans (Hbr.o.mono Hb1.o.size))
    clear hfs hpl hown6 hr6 Hog Hfs HK Hp hfl
    obtain⟨kd,hkd⟩:∃kd,kd=k0::kr:=⟨_,rfl⟩
    rw[<-hkd]at e0
    have hl0:0<kd.length:=by rw[hkd];simp
    have hz0:kd[0]=k0:=by simp[hkd]
    clear hkd h0 h1 h3 hxl hlt hm
    by_cases h91:k0=91
    ·have t1:((kd[0].toNat:Int) == 91)=true:=by rw[hz0];exact Bl h91
     have HO2:=Aa (HO.o.trans (if_pos h91))
     have z9:(Ak 44 fs).length<=300000:=by omega
     clear h91 HO HT hz0
     go_wp2_with fail
     refine(HJ.o _ (As _ _)).mono ?_
     rintro e w7 ⟨rfl,rfl⟩
     go_wp2_with fail
     go_ret2
     exact⟨by rw[HO2.o];rfl,Hbw.o⟩
    have t1:((kd[0].toNat:Int) == 91)=false:=by rw[hz0];exact An h91
    have HO:=Aa (HO.o.trans (if_neg h91))
    clear h91 HJ
    by_cases h63:k0=63
    ·have t2:((kd[0].toNat:Int) == 63)=true:=by rw[hz0];exact Bl h63
     have HO2:=Aa (HO.o.trans (if_pos h63))
     clear h63 HO HT hz0
     cases fs with
     |nil=>
      have z0:xs.length=0:=Hfl.o.symm
      have z1:(xs.length:Int)=0:=by omega
      go_wp2_with fail
      go_ret2
      exact⟨by rw[HO2.o];rfl,Hbw.o⟩
     |cons p fs=>
      have z0:0<xs.length:=by rw[<-Hfl.o];simp
      have z1:¬(xs.length:Int)=0:=by omega
      have z2:(0:Int)<(xs.length:Int):=by omega
      have z3:((xs.length:Int) == 0)=false:=by simpa using z1
      obtain⟨b8,o8,rfl,hb8,hc8⟩:=Hr6.o.at_ z0
      simp[Ae]at hc8
      go_wp2_with fail
      go_ret2
      exact⟨by rw[HO2.o];rfl,Hbw.o⟩
    have t2:((kd[0].toNat:Int) == 63)=false:=by rw[hz0];exact An h63
    have HO:=Aa (HO.o.trans (if_neg h63))
    clear h63
    by_cases h64:k0=64
    ·have t3:((kd[0].toNat:Int) == 64)=true:=by rw[hz0];exact Bl h64
     have HO2:=Aa (HO.o.trans (if_pos h64))
     have HX:=Aa (HT.o h64 fs Hf.o A3 q3 wr Hbw.o (by rw[Hfl.o];exact Hr6.o))
     unfold TxQ txV at HX
     rw[Hfl.o]at HX
     clear h64 HO HT hz0
     go_wp2_with fail
     refine HX.o.mono ?_
     rintro e w7 ⟨rfl,hb7⟩
     have Hb7:=Aa (Hbw.o.trans (hb7.mono Hbw.o.size))
     clear hb7
     go_wp2_with fail
     go_ret2
     exact⟨by rw[HO2.o];rfl,Hb7.o⟩
    have t3:((kd[0].toNat:Int) == 64)=false:=by rw[hz0];exact An h64
    have HO2:=Aa (HO.o.trans (if_neg h64))
    clear h64 HO HT hz0
    go_wp2_with fail
    go_ret2
    exact⟨by rw[HO2.o];rfl,Hbw.o⟩
def tyO(text:List UInt8)(nms fs:List (List UInt8)):List UInt8:=if text=[69]then 34::(nms.headD []++[34])else 123::(Ak 44 ((Ex (·.1) (nms.zip fs)).map fun p=>p.1++58::p.2)++[125])
def Yn(ga gb n:Nat)(ls bs:List (List UInt8))(W:World):Prop:=ga≠gb/\gb<W.heap.size/\Bh W (some ⟨ga,0,none⟩) n (Ae ls)/\Bh W (some ⟨gb,0,none⟩) n (Ae bs)/\∀j,j<n->W.frozen? ⟨gb,j,none⟩=false
theorem Tb{W:World}{g n:Nat}{l:List (List UInt8)}(h:Bh W (some ⟨g,0,none⟩) n (Ae l)){j:Nat}(hj:j<l.length):W.cell? ⟨g,j,none⟩=some (.string ⟨l[j].toArray⟩):=by
 have hn:=h.1
 simp[Ae]at hn
 obtain⟨b,o,e,_,hc⟩:=h.2.2 (by omega)
 injection e with e;injection e with e1 e2;subst e1 e2
 have:=hc j (.string ⟨l[j].toArray⟩) (by simp[Ae,hj])
 simpa using this
theorem Yn.set{ga gb n:Nat}{ls bs:List (List UInt8)}{W:World}(h:Yn ga gb n ls bs W){m:Nat}(hm:m<n)(x:List UInt8):Yn ga gb n ls (bs.set m x) (W.setCell ⟨gb,m,none⟩ (.string ⟨x.toArray⟩)):=by
 obtain⟨hne,hl,ha,hb,hf⟩:=h
 have hbl:bs.length=n:=by have:=hb.1;simpa [Ae]using this
 refine⟨hne,by simpa using hl,⟨ha.1,ha.2.1,fun h0=>?_⟩,⟨by simpa [Ae]using hb.1,hb.2.1,fun h0=>⟨gb,0,rfl,by simpa using hl,fun j u hj=>?_⟩⟩,fun j hj=>by rw[World.frozen?_setCell];exact hf j hj⟩
 ·obtain⟨b,o,e,hlt,hc⟩:=ha.2.2 h0
  injection e with e;injection e with e1 e2;subst e1 e2
  refine⟨_,_,rfl,by simpa using hlt,fun j u hj=>?_⟩
  rw[World.cell?_setCell_other _ _ _ _ (by intro e;injection e with e;exact hne e.symm)]
  exact hc j u hj
 have hj':j<bs.length:=by
  have:=(List.getElem?_eq_some_iff.1 hj).1
  simpa [Ae]using this
 have hcell:=Tb hb hj'
 rw[Nat.zero_add]
 by_cases e:j=m
 ·subst e
  rw[World.cell?_setCell_same _ _ _ hcell]
  have:(Ae (bs.set j x))[j]?=some (.string ⟨x.toArray⟩):=by simp[Ae,hj']
  rw[hj]at this
  rw[this]
 rw[World.cell?_setCell_other _ _ _ _ (by intro e2;injection e2 with _ e2;omega),hcell]
 have:(Ae (bs.set m x))[j]?=some (.string ⟨bs[j].toArray⟩):=by simp[Ae,hj',List.getElem_set,Ne.symm e]
 rw[hj]at this
 rw[this]
theorem Yn.below{ga gb n:Nat}{ls bs:List (List UInt8)}{W W':World}(h:Yn ga gb n ls bs W)(hb:Below W.heap.size W W'):Yn ga gb n ls bs W':=by
 obtain⟨hne,hl,ha,hb2,hf⟩:=h
 refine⟨hne,Nat.lt_of_lt_of_le hl hb.size,ha.below hb,hb2.below hb,fun j hj=>?_⟩
 have e:W'.heap[gb]?=W.heap[gb]?:=hb.block gb hl
 have:=hf j hj
 simp only[World.frozen?,e]at *
 exact this
theorem Qan{B:Nat}{W:World}{g n c:Nat}{xs:List (List UInt8)}(h:M1 B W g n c xs):g<W.heap.size/\∀j,j<n->W.frozen? ⟨g,j,none⟩=false:=by
 refine⟨(h.lt g rfl).2,fun j hj=>?_⟩
 rcases h.2 with⟨e,_⟩|⟨g2,cap,cur,e,hb,hg,_⟩
 ·cases e
 injection e with e1 e2 e3
 injection e1 with e1
 injection e1 with e1
 subst e1
 simp[World.frozen?,hg]
def Q5(ps:List (List UInt8 × List UInt8))(m:Nat):List (List UInt8):=(ps.take m).map (fun p=>p.1++58::p.2)++(ps.drop m).map (·.2)
theorem Zx(ps:List (List UInt8 × List UInt8))(m:Nat):(Q5 ps m).length=ps.length:=by simp[Q5];omega
theorem Qf2(ps:List (List UInt8 × List UInt8))(m:Nat)(hm:m<ps.length):(Q5 ps m)[m]'(by rw[Zx];exact hm)=ps[m].2:=by
 have h1:((ps.take m).map fun p=>p.1++58::p.2).length=m:=by simp;omega
 unfold Q5
 rw[List.getElem_append_right (by rw[h1];exact Ap _)]
 simp only[h1,Nat.sub_self,List.getElem_map,List.getElem_drop,Nat.add_zero]
theorem Qe0(ps:List (List UInt8 × List UInt8))(m:Nat)(hm:m<ps.length):(Q5 ps m).set m (ps[m].1++58::ps[m].2)=Q5 ps (m+1):=by
 have h1:((ps.take m).map fun p=>p.1++58::p.2).length=m:=by simp;omega
 unfold Q5
 rw[Bn ps m hm,List.drop_eq_getElem_cons hm,List.set_append,if_neg (by rw[h1];omega),h1,Nat.sub_self,List.map_cons,List.set_cons_zero,List.map_append,List.append_assoc]
 rfl
theorem Va(P:Nat->Prop)(b:Nat)(k:Kd)(hk:Co k)(text:List UInt8)(tags:List Nat)(kids:List SV)(xv:Value)(xs:List (Ty × Value))(w:World)(hsc:Kf w xv xs)(h:Ga P w b (.mk (Bq k) text tags kids))(t:Ty)(tv:Value)(hrx:Ki xs k=some (t,tv))(hfd:Fg w tv t.fields)
  (fds:List Fd) (hl:tags=fds.map (·.tag)) (hft:∀f∈fds,Bg t.fields f.tag=some f/\f.tag<=1000/\f.name.length<=3) (hfew:fds.length<=20) (fs:List (List UInt8)) (hfs:text≠[69]->fs.length=fds.length) (h69:text=[69]->0<fds.length) (hf1:∀p∈fs,p.length<=9000)
  (A:Option Addr) (c:Nat) (hrow:Bh w A fs.length (Ae fs)):
  Calls prog 33 #[.agg #[xv],.pointer (some ⟨b,0,none⟩),.slice A fs.length c] w (TxQ (some (tyO text (fds.map (·.name)) fs)) w):=by
 have hsc':=hsc
 obtain⟨A9,c9,rfl,_⟩:=hsc'
 obtain⟨A1,A2,c1,c2,ys,hbl,_,h0,h1,h2,_,r1,_⟩:=h.open_
 obtain⟨A5,c5,rfl,hl5,hr5⟩:=id hfd
 have hrx2:Ki xs k=some (t,.slice A5 t.fields.length c5):=hrx
 have hlen:tags.length=fds.length:=by rw[hl,List.length_map]
 rw[hlen]at h2 r1
 rw[hl]at r1
 obtain⟨w1,hw1⟩:∃w1,w1=w.alloc (.cells #[.slice A9 xs.length c9] 35):=⟨_,rfl⟩
 have hb1:Below w.heap.size w w1:=by rw[hw1];exact(As _ _).alloc (Ap _) _
 have y0:w1.cell? ⟨w.heap.size,0,none⟩=some (.slice A9 xs.length c9):=by rw[hw1];simp
 have l0:w.heap.size<w1.heap.size:=by rw[hw1];simp
 have x0:=(hb1.cell (p:=⟨b,0,none⟩) hbl).trans h0
 have x1:=(hb1.cell (p:=⟨b,1,none⟩) hbl).trans h1
 have x2:=(hb1.cell (p:=⟨b,2,none⟩) hbl).trans h2
 have lb:b<w1.heap.size:=by omega
 have HR:=Aa (fun W (hW:Below w1.heap.size w1 W)=>Gv _ xs k W ((hsc.below hb1).below hW) hk)
 rw[hrx2]at HR
 unfold Q4 Pc at HR
 have Hw1:=Aa hw1
 have Hb1:=Aa hb1
 have Hr1:=Aa (r1.below hb1)
 have Hrow:=Aa (hrow.below hb1)
 have Hfd:=Aa (hfd.below hb1)
 have Hft:=Aa hft
 have Hfs:=Aa hfs
 have Hf1:=Aa hf1
 have H69:=Aa h69
 clear hw1 hb1 r1 hrow hfd hft hfs hf1 h69 hsc h h0 h1 h2 hrx hrx2 hl hlen hbl hr5
 generalize Bq k=kb at *
 go_enter func33,ntmps33
 go_wp2_with fail
 generalize hwg:World.alloc w _=wg
 obtain rfl:w1=wg:=Hw1.o.trans hwg
 clear hwg
 refine rgF (fun l u W=>Kv w1 [.int .u8 (t.sort.toNat:Int),.string ⟨t.name.toArray⟩,.slice A5 t.fields.length c5] (l 10) (l 11) (u 10) W) (Ei w1) (fun _ _ _ h=>Gi h.1) Kv.start ?_
 iterate 6 refine sq ?_
 refine sqB (fun _ _ _ h=>h.1) (fun _ _ _ _ h hb=>h.below hb) HR.o ?_
 iterate 3 refine sq ?_
 refine Ku (fun _=>True) (by
  intro l u W hl hp hF hG hi K hK
  have h:Kv w1 [.int .u8 (t.sort.toNat:Int),.string ⟨t.name.toArray⟩,.slice A5 t.fields.length c5] (l 10) (l 11) (u 10) W:=hF.o
  rw[hl]at h
  have Hh:=Aa (h.alloc [.int .u8 0,.string ⟨#[]⟩,.slice none 0 0] rfl 95)
  clear h hp hi hG
  go_simp
  exact hK _ _ _ Ab Hh.o rfl) ?_
 refine Ku (fun _=>True) (by
  intro l u W hl hp hF hG hi K hK
  have h:Kv w1 [.int .u8 (t.sort.toNat:Int),.string ⟨t.name.toArray⟩,.slice A5 t.fields.length c5] (l 10) (l 11) (u 10) W:=hF.o
  simp[Region.binds,C7]at hp
  obtain⟨b9,e9,_,_,h9,_⟩:=h.2.2 (by simp[hp])
  simp only[Region.wanted,if_true]
  refine wp_store_mid 95 _ _ rfl b9 0 ([.int .u8 (t.sort.toNat:Int),.string ⟨t.name.toArray⟩,.slice A5 t.fields.length c5]:List Value).toArray (by simp[e9];rfl) (by simp[hp];rfl) h9 (by kernel_rfl) (by simp[Value.oneCell']) ?_
  exact hK undef _ _ Ab (h.store (by simp[hp]) e9) rfl) ?_
 refine sq ?_
 intro l u W hl _ hR
 have hR:Kv w1 [.int .u8 (t.sort.toNat:Int),.string ⟨t.name.toArray⟩,.slice A5 t.fields.length c5] (l 10) (l 11) (u 10) W:=hR
 obtain⟨b9,e9,hb9,hl9,_,hrg⟩:=hR.2.2 (hl 10 (by decide))
 have f0:W.cell? ⟨b9,0,none⟩=some (.int .u8 (t.sort.toNat:Int)):=by have:=Ac (hrg (hl 11 (by decide))) 0 rfl;simpa using this
 have f1:W.cell? ⟨b9,1,none⟩=some (.string ⟨t.name.toArray⟩):=by have:=Ac (hrg (hl 11 (by decide))) 1 rfl;simpa using this
 have f2:W.cell? ⟨b9,2,none⟩=some (.slice A5 t.fields.length c5):=by have:=Ac (hrg (hl 11 (by decide))) 2 rfl;simpa using this
 have Hbw:=Aa hR.1
 simp only[e9]
 replace x1:=(hR.1.cell (p:=⟨b,1,none⟩) lb).trans x1
 replace x2:=(hR.1.cell (p:=⟨b,2,none⟩) lb).trans x2
 have lbW:b<W.heap.size:=Nat.lt_of_lt_of_le lb hR.1.size
 clear hl hR e9 hrg HR x0 y0
 go_wp2_with fail
 generalize hw3:World.alloc W _=w3
 have hb3:Below W.heap.size W w3:=by rw[<-hw3];exact(As _ _).alloc (Ap _) _
 have ho3:w3.ownsRow W.heap.size 9 1 (.slice (some ⟨W.heap.size,0,none⟩) 0 0) 0 (Ae []):=by rw[<-hw3];exact Mc W _ _ (Ap _)
 have Hb3:=Aa hb3
 have Ho3:=Aa ho3
 clear hw3 hb3 ho3
 go_loopw [11,10,12,13] (fun i u y z wr=>∃(m:Nat) (A3:Option Addr) (n3 q3:Nat),i=.int .i64 m/\u=.slice A3 n3 q3/\m<=fds.length/\Hid (wr.ownsRow W.heap.size 9 1 (.slice A3 n3 q3) m (Ae ((fds.take m).map (·.name))))/\Hid (Below W.heap.size W wr)) (fun i _ _ _ _=>fds.length - (intOf i).toNat)
 case atStart=>exact⟨0,_,0,0,rfl,rfl,Nat.zero_le _,Ho3.o,Hb3.o⟩
 case round=>
  obtain⟨m,A3,n3,q3,rfl,rfl,hm,Hog,Hbr⟩:=hrel
  have m1:(0:Int)<=(m:Int):=by omega
  have hsz:W.heap.size<=wr.heap.size:=Hbr.o.size
  have e1:=(Hbr.o.cell (p:=⟨b,1,none⟩) lbW).trans x1
  have e2:=(Hbr.o.cell (p:=⟨b,2,none⟩) lbW).trans x2
  have lbr:b<wr.heap.size:=by omega
  have Hbr1:=Aa (Hbw.o.trans (Hbr.o.mono Hbw.o.size))
  by_cases hlt:m<fds.length
  ·have m2:(m:Int)<(fds.length:Int):=by omega
   have j0:=(Hbr.o.cell (p:=⟨b9,0,none⟩) hl9).trans f0
   have j1:=(Hbr.o.cell (p:=⟨b9,1,none⟩) hl9).trans f1
   have j2:=(Hbr.o.cell (p:=⟨b9,2,none⟩) hl9).trans f2
   have l9r:b9<wr.heap.size:=by omega
   obtain⟨b6,o6,rfl,hb6,hc6⟩:=(Hr1.o.below Hbr1.o).at_ hlt
   replace hc6:wr.cell? ⟨b6,o6+m,none⟩=some (.int .i64 (fds[m].tag:Int)):=by simpa [En]using hc6
   obtain⟨hft1,hft2,hft3⟩:=Hft.o fds[m] (List.getElem_mem hlt)
   have HX:=Aa (fun W' (hW:Below wr.heap.size wr W')=>Sr (.int .u8 (t.sort.toNat:Int)) (.string ⟨t.name.toArray⟩) (.slice A5 t.fields.length c5) t.fields fds[m].tag W' (Hfd.o.below (Hbr1.o.trans (hW.mono Hbr1.o.size))) (by omega))
   rw[hft1]at HX
   unfold sfR at HX
   have Hsn:=Aa (show (fds.take (m+1)).map (·.name)=(fds.take m).map (·.name)++[fds[m].name]by rw[Bn fds m hlt,List.map_append];rfl)
   clear hft1 hft2
   generalize fds[m]=f at *
   go_wp2_with fail
   refine rgF (fun l u W=>Kv wr (sfc f) (l 12) (l 13) (u 12) W) (Ei wr) (fun _ _ _ h=>Gi h.1) Kv.start ?_
   iterate 8 refine sq ?_
   refine sqB (fun _ _ _ h=>h.1) (fun _ _ _ _ h hb=>h.below hb) HX.o ?_
   iterate 3 refine sq ?_
   refine Ku (fun _=>True) (by
    intro l u W hl hp hF hG hi K hK
    have h:Kv wr (sfc f) (l 12) (l 13) (u 12) W:=hF.o
    rw[hl]at h
    have Hh:=Aa (h.alloc [.int .i64 0,.string ⟨#[]⟩,.string ⟨#[]⟩,.string ⟨#[]⟩] rfl 118)
    clear h hp hi hG
    go_simp
    exact hK _ _ _ Ab Hh.o rfl) ?_
   refine Ku (fun _=>True) (by
    intro l u W hl hp hF hG hi K hK
    have h:Kv wr (sfc f) (l 12) (l 13) (u 12) W:=hF.o
    simp[Region.binds,C7]at hp
    obtain⟨b9,e9,_,_,h9,_⟩:=h.2.2 (by simp[hp])
    simp only[Region.wanted,if_true]
    unfold sfV at hp
    refine wp_store_mid 118 _ _ rfl b9 0 (sfc f).toArray (by simp[e9];rfl) (by simp[hp];rfl) h9 (by kernel_rfl) (by simp[sfc,Value.oneCell']) ?_
    exact hK undef _ _ Ab (h.store (by simp[hp]) e9) rfl) ?_
   refine sq ?_
   intro l u W6 hl _ hR
   have hR:Kv wr (sfc f) (l 12) (l 13) (u 12) W6:=hR
   obtain⟨b8,e8,hb8,hl8,_,hrg⟩:=hR.2.2 (hl 12 (by decide))
   have q1:W6.cell? ⟨b8,1,none⟩=some (.string ⟨f.name.toArray⟩):=by have:=Ac (hrg (hl 13 (by decide))) 1 rfl;simpa using this
   have Ho4:=Aa (Bf Hog.o hR.1)
   have Hb4:=Aa (Hbr.o.trans (hR.1.mono hsz))
   have hs4:W.heap.size<=W6.heap.size:=Nat.le_trans hsz hR.1.size
   simp only[e8]
   clear hl hR e8 hrg j0 j1 j2 hc6 e1 e2 HX
   go_wp2_with (at_builtin;refine Gt _ rfl _ _ 63 rfl W.heap.size 9 (.string ⟨#[]⟩) 16 underlying63 Dl rfl W6 (.string ⟨f.name.toArray⟩) rfl rfl (.slice A3 n3 q3) m (Ae ((fds.take m).map (·.name))) rfl rfl Ho4.o (by unfold maxLen;omega) (by omega) hs4 ?_;intro v' w5 hown5 hb5;obtain⟨A7,n7,c7,rfl⟩:=H8 hown5;have Ho:=Aa hown5;have Hb5:=Aa (Hb4.o.trans hb5);clear hown5 hb5)
   go_roundw
   case rel=>exact⟨m+1,A7,n7,c7,by go_num,rfl,by omega,(by rw[Hsn.o,Fx];exact Ho.o),Hb5.o⟩
   case measure=>simp[intOf];omega
  ·obtain rfl:m=fds.length:=by omega
   have hown6:=Hog.o
   rw[List.take_length]at hown6
   obtain⟨A6,c6,e6,hr6⟩:=Bh.own hown6
   injection e6 with e7 e8 e9'
   subst e7 e8 e9'
   have Hr6:=Aa hr6
   have Hbr2:=Aa (Hb1.o.trans (Hbr1.o.mono Hb1.o.size))
   clear hown6 hr6 hlt hm
   by_cases h69:text=[69]
   ·have t1:(text == [69])=true:=by simp[h69]
    have z0:=H69.o h69
    have z1:(0:Int)<(fds.length:Int):=by omega
    obtain⟨b8,o8,rfl,hb8,hc8⟩:=Hr6.o.at_ z0
    replace hc8:wr.cell? ⟨b8,o8,none⟩=some (.string ⟨(fds[0]).name.toArray⟩):=by simpa [Ae]using hc8
    have nl:=(Hft.o fds[0] (List.getElem_mem z0)).2.2
    have HO2:=Aa (show tyO text (fds.map (·.name)) fs=(34::((fds[0]).name++[34]):List UInt8)from by
     unfold tyO
     rw[if_pos h69]
     cases fds with
     |nil=>simp at z0
     |cons f fr=>rfl)
    clear h69
    generalize (fds[0]).name=nm at *
    go_wp2_with fail
    go_ret2
    exact⟨by rw[HO2.o];rfl,Hbr2.o⟩
   have t1:(text == [69])=false:=by simp[h69]
   have hfl:=Hfs.o h69
   have HO2:=Aa (show tyO text (fds.map (·.name)) fs=123::(Ak 44 ((Ex (·.1) ((fds.map (·.name)).zip fs)).map fun p=>p.1++58::p.2)++[125])from if_neg h69)
   have HS:=Aa (fun W (hW:Below wr.heap.size wr W)=>Qdh A3 A fds.length q3 c (fds.map (·.name)) fs W (Hr6.o.below hW) (by have:=(Hrow.o.below (Hbr1.o.trans (hW.mono Hbr1.o.size)));rw[hfl]at this;exact this) (by omega))
   have Hps:=Aa (show (Ex (·.1) ((fds.map (·.name)).zip fs)).length=fds.length/\∀p∈Ex (·.1) ((fds.map (·.name)).zip fs),p.1.length<=3/\p.2.length<=9000 by
    refine⟨by rw[(Gr _ _).length_eq];simp[hfl],fun p hp=>?_⟩
    have:=(Gr _ _).mem_iff.1 hp
    obtain⟨p1,p2⟩:=p
    have h1:=List.of_mem_zip this
    obtain⟨f,hf,hfe⟩:=List.mem_map.1 h1.1
    exact⟨by show p1.length<=3;rw[<-hfe];exact(Hft.o f hf).2.2,Hf1.o _ h1.2⟩)
   rw[hfl]
   clear h69 hfl
   generalize Ex (·.1) ((fds.map (·.name)).zip fs)=ps at *
   go_wp2_with fail
   refine(HS.o _ (As _ _)).mono ?_
   rintro e w7 ⟨ga,ca,gb,cb,rfl,hoa,hob,hne,hb7⟩
   obtain⟨A7,c7,e7,hra⟩:=Bh.own hoa
   injection e7 with e71 e72 e73
   obtain⟨A8,c8,e8,hrb⟩:=Bh.own hob
   injection e8 with e81 e82 e83
   subst e71 e81
   have hgb:=(hob.lt gb rfl).1
   have HT:=Aa (show Yn ga gb fds.length (ps.map (·.1)) (Q5 ps 0) w7 from⟨hne,(Qan hob).1,hra,by simpa [Q5]using hrb,(Qan hob).2⟩)
   have Hb7:=Aa hb7
   clear hoa hob hra hrb hb7 e72 e73 e82 e83 HS
   go_wp2_with fail
   obtain⟨wo,rfl⟩:∃wo:World,wo=wr:=⟨_,rfl⟩
   go_loopw [16] (fun i w8=>∃(m:Nat),i=.int .i64 m/\m<=fds.length/\Hid (Yn ga gb fds.length (ps.map (·.1)) (Q5 ps m) w8)/\Hid (Below wo.heap.size wo w8)) (fun i _=>fds.length - (intOf i).toNat)
   case atStart=>exact⟨0,rfl,Nat.zero_le _,HT.o,Hb7.o⟩
   case round=>
    obtain⟨m,rfl,hm,Ht,Hbr8⟩:=hrel
    have m1:(0:Int)<=(m:Int):=by omega
    by_cases hlt:m<fds.length
    ·have m2:(m:Int)<(fds.length:Int):=by omega
     have hmp:m<ps.length:=by rw[Hps.o.1];exact hlt
     have ca7:wr.cell? ⟨ga,m,none⟩=some (.string ⟨(ps[m]).1.toArray⟩):=by
      have:=Tb Ht.o.2.2.1 (j:=m) (by rw[List.length_map];exact hmp)
      simpa using this
     have cb7:wr.cell? ⟨gb,m,none⟩=some (.string ⟨(ps[m]).2.toArray⟩):=by
      have:=Tb Ht.o.2.2.2.1 (j:=m) (by rw[Zx];exact hmp)
      rwa [Qf2 ps m hmp]at this
     have cf7:wr.frozen? ⟨gb,m,none⟩=false:=Ht.o.2.2.2.2 m hlt
     have lb7:gb<wr.heap.size:=Ht.o.2.1
     have HTs:=Aa (fun q=>(Qe0 ps m hmp ▸ (Ht.o.below (below_drewN (As _ wr) q)).set hlt ((ps[m]).1++58::(ps[m]).2):Yn ga gb fds.length (ps.map (·.1)) (Q5 ps (m+1)) ((wr.drewN q).setCell ⟨gb,m,none⟩ (.string ⟨((ps[m]).1++58::(ps[m]).2).toArray⟩))))
     have hpm:=Hps.o.2 ps[m] (List.getElem_mem hmp)
     generalize ps[m]=pm at *
     clear hmp
     obtain⟨pa,pb⟩:=pm
     simp only at ca7 cb7 HTs hpm
     have hne':¬ga=gb:=hne
     have z1:¬(9223372036854775807<pa.length+1):=by omega
     have z2:¬(9223372036854775807<pa.length+1+pb.length):=by omega
     have z3:¬(9223372036854775807<pa.length+(pb.length+1)):=by omega
     have z4:¬(9223372036854775807<pa.length+(1+pb.length)):=by omega
     go_wp2_with fail
     refine rgF (fun l u W'=>(l 13=true->l 11=true)/\(l 13=false->∃q,W'=wr.drewN q)/\(l 13=true->∃q,W'=(wr.drewN q).setCell ⟨gb,m,none⟩ (.string ⟨(pa++58::pb).toArray⟩))) (fun W'=>W'.cell? ⟨ga,m,none⟩=some (.string ⟨pa.toArray⟩)) (fun l u W' h=>by
      cases h13:l 13 with
      |false=>obtain⟨q,rfl⟩:=h.2.1 h13;exact ca7
      |true=>
       obtain⟨q,rfl⟩:=h.2.2 h13
       rw[World.cell?_setCell_other _ _ _ _ (by intro e;injection e with e;exact hne e.symm)]
       exact ca7) ⟨by simp,fun _=>⟨1,rfl⟩,by simp⟩ ?_
     iterate 6 refine sq ?_
     refine sq ?_
     iterate 3 refine sq ?_
     refine Ku (fun v=>v=.string ⟨pb.toArray⟩) (by
      intro l u W' hl hp hF hG hi K hK
      have hR:=hF.o
      have h11:l 11=false:=(hi.o 11 (by rfl)).1
      have h13:l 13=false:=by
       cases h:l 13 with
       |false=>rfl
       |true=>exact absurd (h11.symm.trans (hR.1 h)) (by decide)
      obtain⟨q,rfl⟩:=hR.2.1 h13
      have HRR:=Aa hR
      clear hi hR h11 h13
      simp[Region.binds,C7]at hp
      go_simp
      exact hK _ _ _ rfl HRR.o (by simp[Act.put,hp])) ?_
     refine Ku (fun v=>v=.string ⟨(pa++58::pb).toArray⟩) (by
      intro l u W' hl hp hF hG hi K hK
      have HRR:=hF
      clear hi
      simp[Region.binds,C7]at hp
      go_simp
      exact hK (.string ⟨(pa++58::pb).toArray⟩) _ _ rfl ⟨fun _=>rfl,HRR.o.2.1,HRR.o.2.2⟩ (by first|rfl|(simp[Act.put,hp];done)|(simp[Act.put,hp];rfl))) ?_
     refine sq ?_
     refine Ku (fun _=>True) (by
      intro l u W' hl hp hF hG hi K hK
      obtain⟨q,rfl⟩:=hF.o.2.1 hl
      clear hi
      have h11:l 11=true:=by simp[Region.binds,C7]at hp;first|exact hp.1|exact hp.2.1|exact hp.1.1|simp[hp]
      simp[Region.binds,C7]at hp
      go_simp
      exact hK undef _ _ Ab ⟨fun _=>h11,fun h=>Bool.noConfusion h,fun _=>⟨q,rfl⟩⟩ (by simp[Act.put,hp])) ?_
     intro l u W' hl _ hR
     obtain⟨q,rfl⟩:=hR.2.2 (hl 13 (by decide))
     have Ht2:=Aa (HTs.o q)
     have Hb2:=Aa (show Below wo.heap.size wo ((wr.drewN q).setCell ⟨gb,m,none⟩ (.string ⟨(pa++58::pb).toArray⟩))from(below_drewN Hbr8.o q).setCell hgb _)
     clear hl hR HTs ca7 cb7 cf7
     generalize (wr.drewN q).setCell ⟨gb,m,none⟩ (.string ⟨(pa++58::pb).toArray⟩)=w10 at *
     go_wp2_with fail
     go_roundw
     case rel=>exact⟨m+1,by go_num,by omega,Ht2.o,Hb2.o⟩
     case measure=>simp[intOf];omega
    ·obtain rfl:m=fds.length:=by omega
     have Hj:=Aa (show Q5 ps fds.length=ps.map (fun p=>p.1++58::p.2)by
      have:=Hps.o.1
      rw[<-this]
      simp[Q5])
     have hpl:(ps.map fun p=>p.1++58::p.2).length=fds.length:=by rw[List.length_map];exact Hps.o.1
     have hp9:∀p∈ps.map (fun p=>p.1++58::p.2),p.length<=9004:=fun p hp=>by
      obtain⟨q,hq,rfl⟩:=List.mem_map.1 hp
      have:=Hps.o.2 q hq
      simp only[List.length_append,List.length_cons]
      omega
     have hr9:=Ht.o.2.2.2.1
     rw[Hj.o]at hr9
     have hjl:=Xa _ hp9
     rw[hpl]at hjl
     have HJ:=Aa (V0 (some ⟨gb,0,none⟩) cb (ps.map fun p=>p.1++58::p.2) wr (by rw[hpl];exact hr9) (by omega) (fun p hp=>by have:=hp9 p hp;omega))
     rw[hpl]at HJ
     have Hb9:=Aa (Hbr2.o.trans (Hbr8.o.mono Hbr2.o.size))
     clear hr9 hp9 hpl Hj Ht
     generalize (ps.map fun p=>p.1++58::p.2)=qs at *
     have z9:(Ak 44 qs).length<=300000:=by omega
     go_wp2_with fail
     refine HJ.o.mono ?_
     rintro e w9 ⟨rfl,rfl⟩
     go_wp2_with fail
     go_ret2
     exact⟨by rw[HO2.o];rfl,Hb9.o⟩
def Jp(S:List Ty)(d:Nat)(k:Kd)(v:Vl):Option (List UInt8):=if Cj S d k v=true then some (Gs S d k v)else none
theorem Sy{S:List Ty}{d:Nat}{α:Type}(K:α->Kd)(V:α->Vl):∀l:List α,H6 (l.map fun y=>Jp S d (K y) (V y))=if (l.all fun y=>Cj S d (K y) (V y))=true then some (l.map fun y=>Gs S d (K y) (V y))else none
 |[]=>rfl
 |y::l=>by
  rw[List.map_cons,List.all_cons,List.map_cons]
  unfold Jp
  by_cases h:Cj S d (K y) (V y)=true
  ·rw[if_pos h,H6]
   have ih:=Sy (S:=S) (d:=d) K V l
   unfold Jp at ih
   rw[ih,h,Bool.true_and]
   split<;>rfl
  rw[if_neg h]
  simp[H6,h]
theorem Qeu{k:Kd}(hk:Co k):∃c r,Ce k=c::r/\c≠63:=by
 unfold Ce
 rcases hk.2.1 with⟨h,_⟩|⟨h|h|h,_⟩<;>rw[h]
 ·exact⟨_,_,rfl,by decide⟩
 ·exact⟨_,_,rfl,by decide⟩
 ·exact⟨_,_,rfl,by decide⟩
 exact⟨_,_,rfl,by decide⟩
theorem S7{k:Kd}(hk:Co k):M0 (Bq k)=decide (k.signs.take 2=[63,63]):=by
 obtain⟨c,r,hc,hne⟩:=Qeu hk
 unfold M0 Bq
 rw[hc]
 cases hs:k.signs with
 |nil=>simp;exact fun h=>absurd h hne
 |cons a q=>
  cases q with
  |nil=>simp;exact fun _=>hne
  |cons a2 q=>simp
theorem Qe8{S:List Ty}{d:Nat}{k:Kd}{v:Vl}(h:Cj S d k v=false):Jp S d k v=none:=if_neg (by rw[h];decide)
theorem Qgq{S:List Ty}{d:Nat}{k:Kd}{v:Vl}(h:Cj S d k v=true):Jp S d k v=some (Gs S d k v):=if_pos h
theorem Qct{S:List Ty}(hS:∀t∈S,Dc t){d:Nat}{k:Kd}{v:Vl}(h:Jo S d k v)(hl:(Az v).length<=400){p:List UInt8}(hp:Jp S d k v=some p):p.length<=9000:=by
 unfold Jp at hp
 split at hp
 ·injection hp with hp
  have:=Qg hS d k v h
  rw[hp]at this
  omega
 cases hp
def Qik(S:List Ty)(d:Nat):Prop:=∀(k:Kd) (v:Vl),Jo S d k v->Co k->(Az v).length<=400->∀(P:Nat->Prop) (b:Nat) (xv:Value) (xs:List (Ty × Value)) (w:World),Kf w xv xs->Al xs=S->Ga P w b (Cq S k v) ->
 Calls prog 16 #[.agg #[xv],.pointer (some ⟨b,0,none⟩)] w (TxQ (Jp S d k v) w)
theorem Sl{w:World}{v:Value}{xs:List (Ty × Value)}(h:Kf w v xs):∃A n c,v=.slice A n c:=by
 obtain⟨A,c,e,_⟩:=h
 exact⟨A,_,c,e⟩
theorem Nk{S:List Ty}(P:Nat->Prop)(b:Nat)(c:UInt8)(hc:c=110\/c=116\/c=102)(text:List UInt8)(xv:Value)(xs:List (Ty × Value))(w:World)(hsc:Kf w xv xs)(hat:Ga P w b (.mk [c] text [] [])):
  Calls prog 16 #[.agg #[xv],.pointer (some ⟨b,0,none⟩)] w (TxQ (some text) w):=by
 have:=Nl P b c [] text [] [] xv (Sl hsc) w hat [] rfl (by simp) (by simp) (fun i hi=>by simp at hi) none (fun h=>by rcases hc with rfl|rfl|rfl<;>exact absurd h (by decide))
 have e:nmO [c] text [] none=some text:=by rcases hc with rfl|rfl|rfl<;>simp[nmO,M0,H6]
 rwa [e]at this
theorem Np{S:List Ty}(hS:∀t∈S,Dc t){d:Nat}(ih:Qik S d)(k:Kd)(c:UInt8)(r:List UInt8)(hs:k.signs=c::r)(hc:c=91\/c=63)(hk:Co k)(ks:List Vl)(hl:ks.length<=20)(h:∀x∈ks,Jo S d k.part x)(h4:∀x∈ks,(Az x).length<=400)(P:Nat->Prop)(b:Nat)(xv:Value)(xs:List (Ty × Value))(w:World)(hsc:Kf w xv xs)(hxs:Al xs=S)
  (hat:Ga P w b (.mk (Bq k) [] [] (ks.map (Cq S k.part)))):
  Calls prog 16 #[.agg #[xv],.pointer (some ⟨b,0,none⟩)] w (TxQ (nmO (Bq k) [] (ks.map fun x=>Jp S d k.part x) none) w):=by
 have e:Bq k=c::Bq k.part:=by unfold Bq Kd.part Ce;rw[hs];rfl
 rw[e]at hat ⊢
 have hkp:=(Ks hk).1
 refine Nl P b c _ [] [] _ xv (Sl hsc) w hat (ks.map fun x=>Jp S d k.part x) (by simp) (fun p hp=>?_) (by simpa using hl) (fun i hi o ho c' W hW hat'=>?_) none (fun h=>by rcases hc with rfl|rfl<;>exact absurd h (by decide))
 ·obtain⟨x,hx,he⟩:=List.mem_map.1 hp
  have:=Qct hS (h x hx) (h4 x hx) he
  omega
 have hi':i<ks.length:=by simpa using hi
 have eo:o=Jp S d k.part ks[i]:=by
  rw[List.getElem?_map,List.getElem?_eq_getElem hi']at ho
  simpa using ho.symm
 rw[eo]
 exact ih k.part ks[i] (h _ (List.getElem_mem hi')) hkp (h4 _ (List.getElem_mem hi')) P c' xv xs W (hsc.below hW) hxs (by simpa using hat')
theorem Qij{xs:List (Ty × Value)}{n:Cl}{t:Ty}(h:By (Al xs) n=some t):∃tv,Ew xs n=some (t,tv):=by
 rw[J4]at h
 cases hq:Ew xs n with
 |none=>rw[hq]at h;cases h
 |some y=>rw[hq]at h;simp at h;subst h;exact⟨y.2,rfl⟩
theorem Nu{S:List Ty}(hS:∀t∈S,Dc t){d:Nat}(ih:Qik S d)(k:Kd)(hs:k.signs=[])(hbs:k.base=[64])(hk:Co k)(t:Ty)(ht:By S k.name=some t)(text:List UInt8)(fds:List Fd)(hf:∀f∈fds,Bg t.fields f.tag=some f)(hfw:fds.length<=8)(ks:List (Kd × Vl))(hl:text≠[69]->ks.length=fds.length)(hl8:ks.length<=8)(h69:text=[69]->0<fds.length)
  (h:∀x∈ks,Jo S d x.1 x.2/\Co x.1/\(Az x.2).length<=400) (P:Nat->Prop) (b:Nat) (xv:Value) (xs:List (Ty × Value)) (w:World) (hsc:Kf w xv xs) (hxs:Al xs=S)
  (hat:Ga P w b (.mk (Bq k) text (fds.map (·.tag)) (ks.map fun x=>Cq S x.1 x.2))):
  Calls prog 16 #[.agg #[xv],.pointer (some ⟨b,0,none⟩)] w (TxQ ((H6 (ks.map fun x=>Jp S d x.1 x.2)).map fun fs=>tyO text (fds.map (·.name)) fs) w):=by
 have e:Bq k=64::(k.name++[59]):=by unfold Bq Ce;rw[hs,if_pos hbs];rfl
 have hat2:=hat
 rw[e]at hat
 obtain⟨tv,hfx⟩:=Qij (xs:=xs) (by rw[hxs];exact ht)
 have hfd:Fg w tv t.fields:=by obtain⟨_,_,_,_,_,hscf⟩:=hsc;exact hscf (t,tv) (Ek hfx).1
 have hrx:Ki xs k=some (t,tv):=by unfold Ki;rw[if_pos ⟨hs,hbs⟩];exact hfx
 have hlen:∀p,some p∈ks.map (fun x=>Jp S d x.1 x.2)->p.length<=9000:=fun p hp=>by
  obtain⟨x,hx,he⟩:=List.mem_map.1 hp
  exact Qct hS (h x hx).1 (h x hx).2.2 he
 have:=Nl P b 64 (k.name++[59]) text (fds.map (·.tag)) _ xv (Sl hsc) w hat (ks.map fun x=>Jp S d x.1 x.2) (by simp) (fun p hp=>by have:=hlen p hp;omega) (by simp;omega) (fun i hi o ho c' W hW hat'=>by
  have hi':i<ks.length:=by simpa using hi
  have eo:o=Jp S d ks[i].1 ks[i].2:=by
   rw[List.getElem?_map,List.getElem?_eq_getElem hi']at ho
   simpa using ho.symm
  rw[eo]
  obtain⟨h1,h2,h3⟩:=h _ (List.getElem_mem hi')
  exact ih _ _ h1 h2 h3 P c' xv xs W (hsc.below hW) hxs (by simpa using hat')) ((H6 (ks.map fun x=>Jp S d x.1 x.2)).map fun fs=>tyO text (fds.map (·.name)) fs) (fun _ fs hfs A c W hW hrow=>by
  rw[hfs,Qt]
  have hfl:fs.length=ks.length:=by
   have:=congrArg List.length hfs
   simpa using this.symm
  exact Va P b k hk text (fds.map (·.tag)) _ xv xs W (hsc.below hW) (hat2.after hW) t tv hrx (hfd.below hW) fds rfl (fun f hf'=>by
   have hfo:=(hS t (Bs ht).1).2.2.1.1 f (Bk (hf f hf')).2
   have:=hfo.2.1
   exact⟨hf f hf',by omega,(C9.1 hfo.2.2.1).2.1⟩) (by omega) fs (fun h=>by rw[hfl,hl h]) h69 (fun p hp=>hlen p (by rw[hfs];exact List.mem_map_of_mem hp)) A c hrow)
 have en:nmO (64::(k.name++[59])) text (ks.map fun x=>Jp S d x.1 x.2) ((H6 (ks.map fun x=>Jp S d x.1 x.2)).map fun fs=>tyO text (fds.map (·.name)) fs)=(H6 (ks.map fun x=>Jp S d x.1 x.2)).map fun fs=>tyO text (fds.map (·.name)) fs:=by
  unfold nmO
  rw[if_neg (by simp[M0])]
  cases H6 (ks.map fun x=>Jp S d x.1 x.2)with
  |none=>rfl
  |some fs=>simp
 rwa [en]at this
theorem Yp{p:List UInt8}:∀{l:List (List UInt8)},p∈l->p.length+1<=Cu l
 |q::l,h=>by
  rw[Cv]
  rcases List.mem_cons.1 h with rfl|h
  ·omega
  have:=Yp h;omega
theorem Qcd{S:List Ty}(hS:∀t∈S,Dc t):∀d,Qik S d:=by
 intro d
 induction d with
 |zero=>intro k v h;cases h
 |succ d ih=>
  intro k v h hk hl P b xv xs w hsc hxs hat
  cases h with
  |@n _ _ m hs hb h=>
   rw[Qbb,show Bq k=[110]by unfold Bq Ce;rw[hs,hb];rfl]at hat
   have:=Nk P b 110 (by simp) _ xv xs w hsc hat (S:=S)
   rwa [show Jp S (d+1) k (.mk 110 (Aw m) 0 [])=some (Aw m)by simp[Jp,Cj,Gs,Vl.what,D5,E8]]
  |@t _ _ s hs hb h=>
   rw[Xy,show Bq k=[116]by unfold Bq Ce;rw[hs,hb];rfl]at hat
   have:=Nk P b 116 (by simp) _ xv xs w hsc hat (S:=S)
   rwa [show Jp S (d+1) k (.mk 116 s 0 [])=some (39::(s++[39]))by simp[Jp,Cj,Gs,Vl.what,D5,E8]]
  |@f _ _ s hs hb=>
   rw[Xx,show Bq k=[102]by unfold Bq Ce;rw[hs,hb];rfl]at hat
   have:=Nk P b 102 (by simp) _ xv xs w hsc hat (S:=S)
   rwa [show Jp S (d+1) k (.mk 102 (if s=true then Eb else K0) 0 [])=some (if s=true then Eb else K0)by simp[Jp,Cj,Gs,Vl.what,D5,E8]]
  |@lst _ _ r ks hs hl2 h=>
   rw[Sv]at hat
   have hp:∀x∈ks,(Az x).length<=400:=fun x hx=>by
    have:=Yp (List.mem_map_of_mem (f:=Az) hx)
    rw[D5]at hl
    have e1:=Bb 44 (ks.map Az)
    simp[E8]at hl
    omega
   have:=Np hS ih k 91 r hs (.inl rfl) hk ks hl2 h hp P b xv xs w hsc hxs hat
   have e:nmO (Bq k) [] (ks.map fun x=>Jp S d k.part x) none=Jp S (d+1) k (.mk 91 [] 0 ks):=by
    unfold nmO
    rw[S7 hk,hs,Sy (fun _=>k.part) (fun x=>x)]
    unfold Jp
    simp only[Cj,Gs,Vl.what,Vl.kids]
    by_cases hq:(ks.all fun x=>Cj S d k.part x)=true
    ·have hq':ks.all (Cj S d k.part)=true:=hq
     simp[hq',Bq,hs]
    have hq':¬ks.all (Cj S d k.part)=true:=hq
    simp only[Bool.not_eq_true]at hq'
    simp[hq']
   rwa [e]at this
  |@non _ _ r hs=>
   rw[Nj]at hat
   have:=Np hS ih k 63 r hs (.inr rfl) hk [] (by simp) (by simp) (by simp) P b xv xs w hsc hxs hat
   have e:nmO (Bq k) [] (([]:List Vl).map fun x=>Jp S d k.part x) none=Jp S (d+1) k (.mk 63 [] 0 []):=by
    unfold nmO
    rw[S7 hk,hs]
    unfold Jp
    simp only[Cj,Gs,Vl.what,Vl.kids,Kd.part,hs,List.tail_cons]
    cases r with
    |nil=>simp[H6,Bq,hs]
    |cons c r=>
     by_cases h63:c=63
     ·simp[h63]
     simp[h63,H6,Bq,hs]
   rwa [e]at this
  |@som _ _ r x hs h=>
   rw[Nj]at hat
   have hp:(Az x).length<=400:=by rw[D5]at hl;simp[E8,Ak]at hl;omega
   have:=Np hS ih k 63 r hs (.inr rfl) hk [x] (by simp) (by simpa using h) (by simpa using hp) P b xv xs w hsc hxs hat
   have e:nmO (Bq k) [] ([x].map fun x=>Jp S d k.part x) none=Jp S (d+1) k (.mk 63 [] 0 [x]):=by
    unfold nmO
    rw[S7 hk,hs]
    unfold Jp
    simp only[Cj,Gs,Vl.what,Vl.kids]
    have hr:k.part.signs=r:=by unfold Kd.part;rw[hs];rfl
    rw[hr]
    by_cases hq:Cj S d k.part x=true
    ·cases r with
     |nil=>simp[H6,Bq,hs,hq]
     |cons c r=>
      by_cases h63:c=63
      ·simp[h63]
      simp[h63,H6,Bq,hs,hq]
    cases r with
    |nil=>simp[H6,hq]
    |cons c r=>
     by_cases h63:c=63
     ·simp[h63]
     simp[h63,H6,hq]
   rwa [e]at this
  |@enm _ _ t f hs hb ht h9 hf=>
   rw[S5]at hat
   have:=Nu hS ih k hs hb hk t ht [69] [f] (by simpa using hf) (by simp) [] (by simp) (by simp) (by simp) (by simp) P b xv xs w hsc hxs hat
   rwa [show ((H6 (([]:List (Kd × Vl)).map fun x=>Jp S d x.1 x.2)).map fun fs=>tyO [69] ([f].map (·.name)) fs)=Jp S (d+1) k (.mk 69 [] f.tag [])by simp[H6,tyO,Jp,Cj,Gs,Vl.what,Vl.tag,Eu ht hf]]at this
  |@uni _ _ t f x hs hb ht h5 hf h=>
   have hfk:=Dn ht hf
   rw[Tn,hfk]at hat
   have hp:(Az x).length<=400:=by rw[D5]at hl;simp[E8,Ak]at hl;omega
   have hkf:Co f.kind:=(((hS t (Bs ht).1).2.2.1.1 f (Bk hf).2).2.2.2.2 (by rw[h5];decide)).1
   have:=Nu hS ih k hs hb hk t ht [85] [f] (by simpa using hf) (by simp) [(f.kind,x)] (by simp) (by simp) (by simp) (by simpa using⟨h,hkf,hp⟩) P b xv xs w hsc hxs hat
   have e:((H6 ([(f.kind,x)].map fun x=>Jp S d x.1 x.2)).map fun fs=>tyO [85] ([f].map (·.name)) fs)=Jp S (d+1) k (.mk 85 [] f.tag [x]):=by
    unfold Jp
    simp only[Cj,Gs,Vl.what,Vl.kids,Vl.tag,hfk,Eu ht hf]
    by_cases hq:Cj S d f.kind x=true
    ·simp[H6,hq,tyO,Ex,Mu,Ak,M2,Vl.kids]
    simp[H6,hq]
   rwa [e]at this
  |@rcd _ _ t fs hs hb ht h2 hf h hn hp=>
   have hfk:∀p∈fs,Fl S k p.1.tag=p.1.kind:=fun p hp2=>Dn ht (hf p hp2)
   rw[Tz]at hat
   have hp4:∀p∈fs,(Az p.2).length<=400:=fun p hp2=>by
    have h3:=Yp (List.mem_map_of_mem (f:=fun p=>Az (Dg p)) hp2)
    rw[D5]at hl
    have e1:=Bb 44 ((fs.map Dg).map Az)
    simp[E8]at hl
    simp only[List.map_map]at e1 hl
    have e2:Az (Dg p)=Aw p.1.tag++61::Az p.2:=by rw[Dg,D5];simp[E8,Ak]
    rw[e2]at h3
    simp only[List.length_append,List.length_cons]at h3
    have e3:(fs.map (Az ∘ Dg))=fs.map fun p=>Az (Dg p):=rfl
    rw[e3]at e1 hl
    omega
   have hat':Ga P w b (.mk (Bq k) [82] ((fs.map (·.1)).map (·.tag)) ((fs.map fun p=>(p.1.kind,p.2)).map fun x=>Cq S x.1 x.2)):=by
    rw[List.map_map,List.map_map]
    have e1:fs.map ((fun x:Kd × Vl=>Cq S x.1 x.2) ∘ fun p=>(p.1.kind,p.2))=fs.map fun p=>Cq S (Fl S k p.1.tag) p.2:=List.map_congr_left fun p hp2=>by simp[hfk p hp2]
    rw[e1]
    exact hat
   have:=Nu hS ih k hs hb hk t ht [82] (fs.map (·.1)) (fun f hf'=>by
    obtain⟨p,hp2,rfl⟩:=List.mem_map.1 hf'
    exact hf p hp2) (by rw[List.length_map];exact X7 hS ht hf hp) (fs.map fun p=>(p.1.kind,p.2)) (by simp) (by rw[List.length_map];exact X7 hS ht hf hp) (by simp) (fun x hx=>by
    obtain⟨p,hp2,rfl⟩:=List.mem_map.1 hx
    exact⟨h p hp2,(((hS t (Bs ht).1).2.2.1.1 p.1 (Bk (hf p hp2)).2).2.2.2.2 (by rw[h2];decide)).1,hp4 p hp2⟩) P b xv xs w hsc hxs hat'
   have e:((H6 ((fs.map fun p=>(p.1.kind,p.2)).map fun x=>Jp S d x.1 x.2)).map fun l=>tyO [82] ((fs.map (·.1)).map (·.name)) l)=Jp S (d+1) k (.mk 82 [] 0 (fs.map Dg)):=by
    have e1:=Sy (S:=S) (d:=d) (fun p:Fd × Vl=>p.1.kind) (fun p=>p.2) fs
    rw[show ((fs.map fun p=>(p.1.kind,p.2)).map fun x:Kd × Vl=>Jp S d x.1 x.2)=fs.map fun y=>Jp S d y.1.kind y.2 by rw[List.map_map];rfl,e1]
    have e2:((fs.map Dg).all fun y=>Cj S d (Fl S k y.tag) (M2 y))=fs.all fun y=>Cj S d y.1.kind y.2:=by
     rw[List.all_map]
     rw[Bool.eq_iff_iff,List.all_eq_true,List.all_eq_true]
     exact⟨fun H p hp2=>by have:=H p hp2;rw[<-hfk p hp2];exact this,fun H p hp2=>by have:=H p hp2;rw[<-hfk p hp2]at this;exact this⟩
    have e3:Cj S (d+1) k (.mk 82 [] 0 (fs.map Dg))=fs.all fun y=>Cj S d y.1.kind y.2:=by rw[<-e2];simp[Cj,Vl.what,Vl.kids]
    have e4:Gs S (d+1) k (.mk 82 [] 0 (fs.map Dg))=tyO [82] ((fs.map (·.1)).map (·.name)) (fs.map fun y=>Gs S d y.1.kind y.2):=by
     have z1:(fs.map (·.1)).map (·.name)=(fs.map Dg).map fun y=>Ed S k y.tag:=by
      rw[List.map_map,List.map_map]
      exact List.map_congr_left fun p hp2=>(Eu ht (hf p hp2)).symm
     have z2:(fs.map fun y=>Gs S d y.1.kind y.2)=(fs.map Dg).map fun y=>Gs S d (Fl S k y.tag) (M2 y):=by
      rw[List.map_map]
      exact List.map_congr_left fun p hp2=>by
       show _=Gs S d (Fl S k p.1.tag) p.2
       rw[hfk p hp2]
     unfold tyO
     rw[z1,z2,Qhu S k (fs.map Dg) (fun y=>Gs S d (Fl S k y.tag) (M2 y)),List.map_map,if_neg (by decide)]
     simp[Gs,Vl.what,Vl.kids]
     rfl
    unfold Jp
    rw[e3,e4]
    split<;>rfl
   rwa [e]at this
def Ti(S:List Ty)(k:Kd)(v:Vl):Option (List UInt8):=Jp S 12 k v
theorem Qhk(s d x:List UInt8)(w:World)(HO:Calls prog 15 #[.string ⟨s.toArray⟩,.string ⟨d.toArray⟩,.string ⟨x.toArray⟩] w (J7 s d x w)):
  Calls prog 8 #[.string ⟨s.toArray⟩,.string ⟨d.toArray⟩,.string ⟨x.toArray⟩] w (Qbe (vlB (C5 s d) x Ti) w):=by
 have HO:=Aa HO
 go_enter func8,ntmps8
 go_wp2_with fail
 refine HO.o.mono ?_
 rintro e w1 hpost
 obtain⟨hb1,⟨hv,v,q,rfl⟩|⟨S,k,v,xv,xs,b,hb,hv,rfl,hxs,hsc,hat⟩⟩:=hpost.cases
 ·have HV:=Aa (Qcs (f:=Ti) hv)
  have Hb1:=Aa hb1
  clear hv hpost hb1
  go_wp2_with fail
  go_ret2
  exact⟨by rw[HV.o];rfl,Hb1.o⟩
 obtain⟨S',k',e1,hok,hk,_,hkd,hvok,hpr,hxl⟩:=Vy hv
 rw[hb]at e1
 injection e1 with e1
 injection e1 with e1 e2
 subst e1 e2
 have hS:=hok.1.1
 have Hb1:=Aa hb1
 have HE:=Aa (show vlB (C5 s d) x Ti=Jp S 12 k v by
  rw[hb]
  have h:Jr S k x=some v:=by rw[hb]at hv;exact hv
  simp[vlB,h,Ti])
 have HX:=Aa (Qcd hS 12 k v hvok hk (by rw[hpr];exact hxl) _ b xv xs w1 hsc hxs hat)
 unfold TxQ txV at HX
 obtain⟨A9,n9,c9,rfl⟩:=Sl hsc
 clear hpost hb1 hb hv hok hk hkd hvok hpr hS hat hsc hxs
 generalize Jp S 12 k v=o at *
 go_wp2_with fail
 refine HX.o.mono ?_
 rintro e w2 ⟨rfl,hb2⟩
 have Hb2:=Aa (Hb1.o.trans (hb2.mono Hb1.o.size))
 clear hb2
 go_wp2_with fail
 go_ret2
 exact⟨by rw[HE.o];rfl,Hb2.o⟩
theorem Qhm(S:List Ty)(n:Nat)(t:Ty)(h:t.sort≠85):Bt S (n+1) t=true:=by
 simp only[Bt,E0,if_neg h]
theorem Qf0(xs:List (Ty × Value))(n:Nat)(t:Ty)(f:Fd)(fs:List Fd)(h:t.sort=85)(hf:t.fields=f::fs):
  Bt (Al xs) (n+1) t=(match Ki xs f.kind with|none=>true|some u=>Bt (Al xs) n u.1):=by
 simp only[Bt,E0,if_pos h,hf,Ki]
 by_cases hk:f.kind.signs=[]/\f.kind.base=[64]
 ·rw[if_pos hk,if_pos hk,J4]
  cases Ew xs f.kind.name<;>rfl
 rw[if_neg hk,if_neg hk]
theorem Qa6{t:Ty}(h:Dc t)(hs:t.sort=85):∃f fs,t.fields=f::fs/\Co f.kind:=by
 obtain⟨h1,h2,h3,h4,h5⟩:=h
 cases hf:t.fields with
 |nil=>have:=h5 hf;rw[hs]at this;exact absurd this (by decide)
 |cons f fs=>
  refine⟨f,fs,rfl,?_⟩
  have:=h3.1 f (by rw[hf];simp)
  exact(this.2.2.2.2 (by rw[hs];decide)).1
theorem Qgm{xs:List (Ty × Value)}{k:Kd}{x:Ty × Value}(h:Ki xs k=some x):x∈xs:=by
 unfold Ki at h
 split at h
 ·exact(Ek h).1
 cases h
theorem Qdc(v fv:Value)(xs:List (Ty × Value))(t:Ty)(w:World)(h:Kf w v xs)(ht:Dc t)(hft:Fg w fv t.fields)(hok:∀x∈xs,Dc x.1):
  Calls prog 115 #[v,Pc t fv] w fun e w'=>e=.returned (.bool (Bt (Al xs) (xs.length+1) t))/\Below w.heap.size w w':=by
 have H:=Aa h
 have Hok:=Aa hok
 obtain⟨A,c,rfl,hxl,_⟩:=h
 obtain⟨A1,c1,rfl,hfl,hr1⟩:=hft
 have Hr1:=Aa hr1
 have Ht:=Aa ht
 clear hok hr1 ht
 unfold Pc
 go_enter func115,ntmps115
 go_wp2_with fail
 go_loopw [5] (fun i wr=>∃(n:Nat) (cur:Ty) (A2:Option Addr) (c2:Nat),i=.int .i64 n/\n<=xs.length+1/\Hid (Dc cur)/\Hid (Bh w A2 (cur.fields.length*4) (cur.fields.flatMap sfc)) /\
   Hid (Bt (Al xs) (xs.length+1) t=Bt (Al xs) (xs.length+1 - n) cur)/\Hid (Below w.heap.size w wr)/\w.heap.size<wr.heap.size /\
   wr.cell? ⟨w.heap.size,0,none⟩=some (.int .u8 (cur.sort.toNat:Int))/\wr.cell? ⟨w.heap.size,1,none⟩=some (.string ⟨cur.name.toArray⟩)/\wr.cell? ⟨w.heap.size,2,none⟩=some (.slice A2 cur.fields.length c2) /\
   (∀j,wr.frozen? ⟨w.heap.size,j,none⟩=false)) (fun i _=>xs.length+1 - (intOf i).toNat)
 case atStart=>exact⟨0,t,A1,c1,rfl,Nat.zero_le _,Ht.o,Hr1.o,rfl,(As _ _).alloc (Ap _) _,by simp,by simp,by simp,by simp,by simp⟩
 case round=>
  obtain⟨n,cur,A2,c2,rfl,hn,hcu,hrow,heq,hb,hsz,u0,u1,u2,f1⟩:=hrel
  by_cases hlt:n<=xs.length
  ·have k1:(n:Int)<=(xs.length:Int):=by omega
   obtain⟨m,hm⟩:∃m,xs.length+1 - n=m+1:=⟨xs.length - n,by omega⟩
   have hm2:xs.length+1 - (n+1)=m:=by omega
   rw[hm]at heq
   have hcl:=cur.sort.toNat_lt
   by_cases hs:cur.sort=85
   ·have t1:((cur.sort.toNat:Int) != 85)=false:=by have:=Bl hs;simpa using this
    have t2:((cur.sort.toNat:Int) == 85)=true:=Bl hs
    obtain⟨f,fs,hfs,hkd⟩:=Qa6 hcu.o hs
    have Heq:=Aa (show Bt (Al xs) (xs.length+1) t=(match Ki xs f.kind with|none=>true|some u=>Bt (Al xs) m u.1)by rw[heq.o];exact Qf0 xs m cur f fs hs hfs)
    have hlf:0<cur.fields.length:=by rw[hfs];simp
    have hf0:cur.fields[0]=f:=by simp[hfs]
    obtain⟨b,off,rfl,hbl,g0,g1,g2,g3⟩:=Fg.at_ (hrow.o.below hb.o) hlf
    rw[hf0]at g0 g1 g2 g3
    simp only[Nat.zero_mul,Nat.add_zero]at g0 g1 g2 g3
    have Hkd:=Aa hkd
    have l1:(0:Int)<(cur.fields.length:Int):=by omega
    clear hs heq hkd hf0 hfs
    go_wp2_with fail
    refine(Gv (.slice A xs.length c) xs f.kind _ (H.o.below hb.o) Hkd.o).mono ?_
    rintro e w4 ⟨rfl,hb4⟩
    obtain⟨hc4,hfz4,hz4⟩:=Bw hb4
    have Hb5:=Aa (hb.o.trans (hb4.mono (Nat.le_of_lt hsz)))
    rw[<-hc4 _ _ hsz]at u0 u1 u2
    have f1':∀j,w4.frozen? ⟨w.heap.size,j,none⟩=false:=fun j=>(hfz4 _ j hsz).trans (f1 j)
    have hsz4:=hz4 _ hsz
    have Hrow':=Aa (fun(x:Ty × Value) (hx:x∈xs)=>((show ∀x∈xs,Fg w x.2 x.1.fields from(by obtain⟨_,_,_,_,_,hf⟩:=H.o;exact hf)) x hx))
    have hn1:¬(w4.heap.size=w.heap.size):=by omega
    have hn2:¬(w.heap.size=w4.heap.size):=by omega
    clear hb4 hc4 hfz4 hz4 f1 hb
    cases hr:Ki xs f.kind with
    |none=>
     rw[hr]at Heq
     unfold Q4 M3
     go_wp2_with fail
     go_ret
     exact⟨by rw[Heq.o];first|rfl|trivial,(by(repeat (first|exact Hb5.o|refine Below.setCell ?_ (by first|exact Ap _|(simp;done)|(simp;omega)|omega) _|refine Below.alloc ?_ (by first|exact Ap _|(simp;done)|(simp;omega)|omega) _|refine Below.drew ?_)))⟩
    |some x=>
     rw[hr]at Heq
     obtain⟨u,uv⟩:=x
     have Hm:=Aa (Qgm hr)
     obtain⟨A5,c5,e5,_,hr5⟩:=Hrow'.out _ Hm.o
     simp only[]at e5 hr5
     subst e5
     have Hr5:=Aa hr5
     clear hr hr5
     unfold Q4 Pc
     go_wp2_with fail
     go_roundw
     case rel=>
      refine⟨n+1,u,A5,c5,by go_num,by omega,Hok.o _ Hm.o,Hr5.o,by rw[hm2];exact Heq.o,(by(repeat (first|exact Hb5.o|refine Below.setCell ?_ (by first|exact Ap _|(simp;done)|(simp;omega)|omega) _|refine Below.alloc ?_ (by first|exact Ap _|(simp;done)|(simp;omega)|omega) _|refine Below.drew ?_))),by simp;omega,by simp[go_sem,u0,u1,u2,f1',hn1,hn2,hsz4],by simp[go_sem,u0,u1,u2,f1',hn1,hn2,hsz4],by simp[go_sem,u0,u1,u2,f1',hn1,hn2,hsz4],by intro j;simp[go_sem,f1',hn1,hn2,hsz4]⟩
     case measure=>simp[intOf];omega
   have t1:((cur.sort.toNat:Int) != 85)=true:=by have:=An hs;simpa using this
   have t2:((cur.sort.toNat:Int) == 85)=false:=An hs
   have Hend:=Aa (show Bt (Al xs) (xs.length+1) t=true by rw[heq.o];exact Qhm _ m cur hs)
   clear hs heq
   go_wp2_with fail
   go_ret
   exact⟨by rw[Hend.o];first|rfl|trivial,hb.o⟩
  ·have k1:¬(n:Int)<=(xs.length:Int):=by omega
   have Hend:=Aa (show Bt (Al xs) (xs.length+1) t=false by rw[heq.o,show xs.length+1 - n=0 by omega];rfl)
   clear heq
   go_wp2_with fail
   go_ret
   exact⟨by rw[Hend.o];first|rfl|trivial,hb.o⟩
theorem Pv(S:List Ty)(hT:∀t∈S,Dc t):∀(n:Nat) (k:Kd),(Cx S n k).length<=6*n
 |0,_=>by simp[Cx]
 |n+1,k=>by
  unfold Cx
  split
  ·simp;omega
  split
  ·simp;omega
  split
  ·simp;omega
  split
  ·simp;omega
  split
  ·simp;omega
  cases hf:By S k.name with
  |none=>simp
  |some t=>
   simp only
   split
   ·simp;omega
   cases hfs:t.fields with
   |nil=>simp
   |cons f fs=>
    have h1:=((hT t (Bs hf).1).2.2.1.1 f (by rw[hfs];simp)).2.1
    have h2:=Ds 2 f.tag (by have e:10 ^ (2+1)=1000:=rfl;omega)
    have ih:=Pv S hT n f.kind
    simp only
    split
    ·simp;omega
    simp;omega
def Tr(b:List UInt8):List UInt8:=if b=[110]then[48]else if b=[116]then[39,39]else[110,111]
theorem Yb(b:List UInt8)(w:World)(hb:b=[110]\/b=[116]\/b=[102]):
  Calls prog 151 #[.string ⟨b.toArray⟩] w fun e w'=>e=.returned (.string ⟨(Tr b).toArray⟩)/\w=w':=by
 rcases hb with rfl|rfl|rfl
 ·go_enter func151,ntmps151
  go_wp2_with fail
  go_ret
  exact⟨rfl,rfl⟩
 ·go_enter func151,ntmps151
  go_wp2_with fail
  go_ret
  exact⟨rfl,rfl⟩
 go_enter func151,ntmps151
 go_wp2_with fail
 go_ret
 exact⟨rfl,rfl⟩
def Qcq(c:UInt8):List UInt8:=if c=91 then[91,93]else[45]
theorem Qk(v:Value)(c:UInt8)(t:List UInt8)(w:World)(hc:c=91\/c=63)(hl:t.length<=1000):
  Calls prog 117 #[v,.string ⟨(c::t).toArray⟩] w fun e w'=>e=.returned (.string ⟨(Qcq c).toArray⟩)/\w=w':=by
 rcases hc with rfl|rfl
 ·go_enter func117,ntmps117
  go_wp2_with fail
  go_ret
  exact⟨rfl,rfl⟩
 go_enter func117,ntmps117
 go_wp2_with fail
 go_ret
 exact⟨rfl,rfl⟩
theorem Mk{k:Kd}(h:Co k)(hs:k.signs=[])(hb:k.base≠[64]):Bq k=k.base/\(k.base=[110]\/k.base=[116]\/k.base=[102]):=by
 refine⟨by unfold Bq Ce;rw[hs,if_neg hb];rfl,?_⟩
 rcases h.2.1 with h|h
 ·exact absurd h.1 hb
 exact h.1
theorem Ns(v:Value)(xs:List (Ty × Value))(k:Kd)(w:World)(hsc:Kf w v xs)(hk:Co k)(hs:k.signs=[])(hb:k.base≠[64]):
  Calls prog 117 #[v,.string ⟨(Bq k).toArray⟩] w fun e w'=>e=.returned (.string ⟨(Tr k.base).toArray⟩)/\Below w.heap.size w w':=by
 have Hr:=Aa (fun W h=>Gv v xs k W h hk)
 have hx:Ki xs k=none:=if_neg (fun h=>hb h.2)
 rw[hx]at Hr
 obtain⟨e1,e2⟩:=Mk hk hs hb
 rw[e1]at Hr ⊢
 have Hsc:=Aa hsc
 have Hp:=Aa (fun W=>Yb k.base W e2)
 have He2:=Aa e2
 unfold Q4 M3 at Hr
 generalize k.base=b at *
 clear hs hb e1 hsc hx
 obtain⟨c,hc,t1,t2⟩:∃c,b=[c]/\((c.toNat:Int) == 91)=false/\((c.toNat:Int) == 63)=false:=by
  rcases e2 with rfl|rfl|rfl
  ·exact⟨110,rfl,by decide,by decide⟩
  ·exact⟨116,rfl,by decide,by decide⟩
  exact⟨102,rfl,by decide,by decide⟩
 clear e2
 subst hc
 go_enter func117,ntmps117
 go_wp2_with fail
 refine(Hr.o _ Hsc.o).mono ?_
 rintro e w1 ⟨rfl,hb1⟩
 go_wp2_with fail
 refine(Hp.o _).mono ?_
 rintro e w2 ⟨rfl,rfl⟩
 go_wp2_with fail
 go_ret
 exact⟨rfl,hb1.alloc hb1.size _⟩
def G0(l:List UInt8)(w:World)(e:Ending)(w':World):Prop:=e=.returned (.string ⟨l.toArray⟩)/\Below w.heap.size w w'
theorem Yy(xv:Value)(xs:List (Ty × Value))(hok:∀x∈xs,Dc x.1)(n:Nat)(k:Kd)(w:World)(hsc:Kf w xv xs)(hk:Co k)(hs:k.signs=[])(hb:k.base=[64])(t:Ty)(fv:Value)(hx:Ew xs k.name=some (t,fv))
  (hn:n<=9) (ih:t.sort=85->∀f fs,t.fields=f::fs->∀W,Kf W xv xs->Calls prog 117 #[xv,.string ⟨(Bq f.kind).toArray⟩] W (G0 (Cx (Al xs) n f.kind) W)):
  Calls prog 117 #[xv,.string ⟨(Bq k).toArray⟩] w (G0 (Cx (Al xs) (n+1) k) w):=by
 have Hr:=Aa (fun W h=>Gv xv xs k W h hk)
 have Hlen:=Aa (Pv (Al xs) (fun t ht=>by obtain⟨x,hx,rfl⟩:=List.mem_map.1 ht;exact hok x hx))
 have hrx:Ki xs k=some (t,fv):=(if_pos ⟨hs,hb⟩).trans hx
 have HF:=Aa (show Cx (Al xs) (n+1) k=if t.sort=82 then[123,125]else match t.fields with|[]=>[]|f::_=>if t.sort=69 then 35::Aw f.tag else 60::(Aw f.tag++61::(Cx (Al xs) n f.kind++[62]))from by
  rw[Cx,if_neg (by rw[hs];decide),if_neg (by rw[hs];decide),if_neg (by rw[hb];decide),if_neg (by rw[hb];decide),if_neg (by rw[hb];decide),J4,hx];rfl)
 have hto:=hok _ (Ek hx).1
 have hkb:Bq k=64::(k.name++[59]):=by unfold Bq Ce;rw[hs,if_pos hb];rfl
 have hnl:k.name.length<=3:=by
  rcases hk.2.1 with h|h
  ·exact(C9.1 h.2).2.1
  rw[hb]at h;exact absurd h.1 (by decide)
 have hfd:Fg w fv t.fields:=by obtain⟨_,_,_,_,_,hf⟩:=hsc;exact hf _ (Ek hx).1
 rw[hrx]at Hr
 rw[hkb]at Hr ⊢
 obtain⟨A,c,rfl,hfl,hrow⟩:=hfd
 have Hsc:=Aa hsc
 have Hrow:=Aa hrow
 have Hto:=Aa hto
 have Ih:=Aa ih
 unfold Q4 Pc at Hr
 simp only[]at hto
 clear hsc hk hs hb hx hkb hrow hto hrx ih hok
 by_cases h82:t.sort=82
 ·have t82:((t.sort.toNat:Int) == 82)=true:=Bl (d:=82) h82
  have HF2:=Aa (HF.o.trans (if_pos h82))
  clear h82 HF
  go_enter func117,ntmps117
  go_wp2_with fail
  refine(Hr.o _ Hsc.o).mono ?_
  rintro e w1 ⟨rfl,hb1⟩
  go_wp2_with fail
  go_ret
  exact⟨by rw[HF2.o];rfl,hb1.alloc hb1.size _⟩
 have t82:((t.sort.toNat:Int) == 82)=false:=An (d:=82) h82
 have HF2:=Aa (HF.o.trans (if_neg h82))
 have hne:t.fields≠[]:=fun h=>h82 (Hto.o.2.2.2.2 h)
 obtain⟨f,fs,hfs⟩:∃f fs,t.fields=f::fs:=by
  cases h:t.fields with
  |nil=>exact absurd h hne
  |cons f fs=>exact⟨f,fs,rfl⟩
 have hf0:0<t.fields.length:=by rw[hfs];simp
 have hge:t.fields[0]=f:=by simp[hfs]
 have hft:=Hto.o.2.2.1.1 f (by rw[hfs];simp)
 have htag:f.tag<=200:=hft.2.1
 have hdl:=Ds 2 f.tag (by have e:10 ^ (2+1)=1000:=rfl;omega)
 have Hd:=Aa (fun W=>Ja f.tag f.tag W (Ap _) (by omega))
 have hi0:(0:Int)<(t.fields.length:Int):=by omega
 have HF3:=Aa (show Cx (Al xs) (n+1) k=if t.sort=69 then 35::Aw f.tag else 60::(Aw f.tag++61::(Cx (Al xs) n f.kind++[62]))from by rw[HF2.o,hfs])
 have Hfs:=Aa hfs
 have Hge:=Aa hge
 obtain⟨b,off,rfl,hbl,g0,g1,g2,g3⟩:=Fg.at_ Hrow.o hf0
 rw[hge]at g0 g1 g2 g3
 simp only[Nat.zero_mul,Nat.add_zero]at g0 g1 g2 g3
 have H82:=Aa h82
 clear HF2 HF h82 hne hfs hge hft g1 g3
 by_cases h69:t.sort=69
 ·have t69:((t.sort.toNat:Int) == 69)=true:=Bl (d:=69) h69
  have HF4:=Aa (HF3.o.trans (if_pos h69))
  clear h69 HF3
  go_enter func117,ntmps117
  go_wp2_with fail
  refine(Hr.o _ Hsc.o).mono ?_
  rintro e w1 ⟨rfl,hb1⟩
  have g0':=(hb1.cell (p:=⟨b,off,none⟩) hbl).trans g0
  have hbl1:b<w1.heap.size:=Nat.lt_of_lt_of_le hbl hb1.size
  have hbn:¬(b=w1.heap.size):=by omega
  have Hb1:=Aa hb1
  clear hb1 g0 g2
  go_wp2_with fail
  refine(Hd.o _).mono ?_
  rintro e w2 ⟨rfl,hb2⟩
  go_wp2_with fail
  go_ret
  exact⟨by rw[HF4.o];simp,(Hb1.o.alloc Hb1.o.size _).trans (hb2.mono (by have:=Hb1.o.size;simp;omega))⟩
 have t69:((t.sort.toNat:Int) == 69)=false:=An (d:=69) h69
 have HF4:=Aa (HF3.o.trans (if_neg h69))
 have h85:t.sort=85:=by
  rcases Hto.o.1 with h|h|h
  ·exact absurd h H82.o
  ·exact h
  exact absurd h h69
 have Ih2:=Aa (Ih.o h85 f fs Hfs.o)
 have hsl:=Hlen.o n f.kind
 generalize Cx (Al xs) n f.kind=sl at *
 generalize Bq f.kind=kd at *
 clear h69 HF3 h85 Ih
 go_enter func117,ntmps117
 go_wp2_with fail
 refine(Hr.o _ Hsc.o).mono ?_
 rintro e w1 ⟨rfl,hb1⟩
 have g0':=(hb1.cell (p:=⟨b,off,none⟩) hbl).trans g0
 have g2':=(hb1.cell (p:=⟨b,off+2,none⟩) hbl).trans g2
 have hbl1:b<w1.heap.size:=Nat.lt_of_lt_of_le hbl hb1.size
 have hbn:¬(b=w1.heap.size):=by omega
 have Hb1:=Aa hb1
 clear hb1 g0 g2
 go_wp2_with fail
 obtain⟨W0,hW0⟩:∃W0,W0=w1.alloc (.cells #[.int .u8 (t.sort.toNat:Int),.string ⟨t.name.toArray⟩,.slice (some ⟨b,off,none⟩) t.fields.length c] 95):=⟨_,rfl⟩
 rw[<-hW0]
 have y2:W0.cell? ⟨w1.heap.size,2,none⟩=some (.slice (some ⟨b,off,none⟩) t.fields.length c):=by rw[hW0];simp
 have y0:W0.cell? ⟨b,off,none⟩=some (.int .i64 (f.tag:Int)):=by rw[hW0,World.cell?_alloc_old _ _ _ hbn];exact g0'
 have y3:W0.cell? ⟨b,off+2,none⟩=some (.string ⟨kd.toArray⟩):=by rw[hW0,World.cell?_alloc_old _ _ _ hbn];exact g2'
 have hz0:W0.heap.size=w1.heap.size+1:=by rw[hW0];simp
 have hB5:w1.heap.size<W0.heap.size:=by omega
 have hb5:b<W0.heap.size:=by omega
 have Hb0:=Aa (show Below w.heap.size w W0 from by rw[hW0];exact Hb1.o.alloc Hb1.o.size _)
 have Hsc0:=Aa (Hsc.o.below Hb0.o)
 generalize w1.heap.size=B5 at *
 clear hW0 hz0 g0' g2'
 refine P3 [39,40,41,42,43,44,45,46,47,48,49,50,51,52,53,54,55,4]
  (fun i v W=>match i with|0=>v=.pointer (some ⟨B5,2,none⟩)|1=>v=.slice (some ⟨b,off,none⟩) t.fields.length c|2=>v=.pointer (some ⟨b,off,none⟩)|3=>v=.pointer (some ⟨b,off,none⟩)|4=>v=.int .i64 (f.tag:Int)|5=>v=.string ⟨(Aw f.tag).toArray⟩|6=>v=.string ⟨(60::Aw f.tag).toArray⟩|7=>v=.string ⟨(60::(Aw f.tag++[61])).toArray⟩|8=>v=xv|9=>v=.pointer (some ⟨B5,2,none⟩)|10=>v=.slice (some ⟨b,off,none⟩) t.fields.length c|11=>v=.pointer (some ⟨b,off,none⟩)|12=>v=.pointer (some ⟨b,off+2,none⟩)|13=>v=.string ⟨kd.toArray⟩|14=>v=.string ⟨sl.toArray⟩|15=>v=.string ⟨(60::(Aw f.tag++61::sl)).toArray⟩|16=>v=.string ⟨(60::(Aw f.tag++61::(sl++[62]))).toArray⟩|17=>v=.string ⟨(60::(Aw f.tag++61::(sl++[62]))).toArray⟩|_=>True)
  (fun L U W=>Below W0.heap.size W0 W) ((As _ _).drew) ?_ ?_
 ·repeat (first|exact Aq.nil|(refine Aq.cons ?_ ?_;rotate_left))
  all_goals
   rintro L U W hL hpre HR Hdep K hK
   have hB:=HR.o
   have c2:=(hB.cell (p:=⟨B5,2,none⟩) hB5).trans y2
   have c0:=(hB.cell (p:=⟨b,off,none⟩) hb5).trans y0
   have c3:=(hB.cell (p:=⟨b,off+2,none⟩) hb5).trans y3
   first|(simp[Region.binds]at hpre;done)|simp[Region.binds]at hpre|clear hpre
  iterate 5
   ·go_simp
    first|exact hK _ _ _ rfl Ab HR.o rfl|exact kE hK HR.o|exact hK undef _ _ Ab Ab HR.o (by simp[Act.put,hpre])|exact hK _ _ _ Ab Ab HR.o rfl|exact kE hK HR.o
  ·go_simp
   refine(Hd.o _).mono ?_
   rintro e w3 ⟨rfl,hb3⟩
   exact hK _ _ _ rfl Ab (hB.trans (hb3.mono hB.size)) (by simp[Act.put,hpre])
  ·go_simp
   rw[if_neg (by first|omega|(simp;omega))]
   go_simp
   first|exact hK _ _ _ rfl Ab HR.o rfl|exact kE hK HR.o
  ·go_simp
   rw[if_neg (by first|omega|(simp;omega))]
   go_simp
   first|exact hK _ _ _ rfl Ab HR.o rfl|exact kE hK HR.o
  iterate 6
   ·go_simp
    first|exact hK _ _ _ rfl Ab HR.o rfl|exact kE hK HR.o|exact hK undef _ _ Ab Ab HR.o (by simp[Act.put,hpre])|exact hK _ _ _ Ab Ab HR.o rfl|exact kE hK HR.o
  ·go_simp
   refine(Ih2.o _ (Hsc0.o.below hB)).mono ?_
   rintro e w3 ⟨rfl,hb3⟩
   exact hK _ _ _ rfl Ab (hB.trans (hb3.mono hB.size)) (by simp[Act.put,hpre])
  ·go_simp
   rw[if_neg (by first|omega|(simp;omega))]
   go_simp
   first|exact hK _ _ _ rfl Ab HR.o rfl|exact kE hK HR.o
  ·go_simp
   rw[if_neg (by first|omega|(simp;omega))]
   go_simp
   first|exact hK _ _ _ rfl Ab HR.o rfl|exact kE hK HR.o
  ·go_simp
   first|exact hK _ _ _ rfl Ab HR.o rfl|exact kE hK HR.o|exact hK undef _ _ Ab Ab HR.o (by simp[Act.put,hpre])|exact hK _ _ _ Ab Ab HR.o rfl|exact kE hK HR.o
 rintro L U W hL hφ hR
 have e17:U 17=.string ⟨(60::(Aw f.tag++61::(sl++[62]))).toArray⟩:=hφ 17 (by decide)
 simp only[e17]
 clear hφ
 have Hb9:=Aa (Hb0.o.trans (hR.mono Hb0.o.size))
 clear hR
 go_wp2_with fail
 go_ret
 exact⟨by rw[HF4.o];rfl,Hb9.o⟩
theorem Nm(S:List Ty)(n:Nat)(k:Kd)(c:UInt8)(t:List UInt8)(h:k.signs=c::t)(hc:c=91\/c=63):Cx S (n+1) k=Qcq c:=by
 unfold Cx Qcq
 rw[h]
 rcases hc with rfl|rfl
 ·rfl
 rfl
theorem Ky(S:List Ty)(n:Nat)(k:Kd)(h:k.signs=[])(hb:k.base=[110]\/k.base=[116]\/k.base=[102]):Cx S (n+1) k=Tr k.base:=by
 unfold Cx Tr
 rw[h]
 rcases hb with hb|hb|hb<;>rw[hb]<;>rfl
theorem Pz{k:Kd}(h:Co k){c:UInt8}{t:List UInt8}(hs:k.signs=c::t):c=91\/c=63:=by
 have:=h.1
 rw[hs,List.all_cons,Bool.and_eq_true]at this
 have:=this.1
 unfold Bo at this
 simpa using this
theorem Qas(xv:Value)(xs:List (Ty × Value))(hok:∀x∈xs,Dc x.1)(hS:Fq (Al xs)):∀(n:Nat),n<=9->∀(k:Kd) (w:World),Kf w xv xs->Co k->Cb (Al xs) k->Tw (Al xs) n k ->
  Calls prog 117 #[xv,.string ⟨(Bq k).toArray⟩] w (G0 (Cx (Al xs) (n+1) k) w):=by
 intro n
 induction n with
 |zero=>
  intro _ k w hsc hk hr he
  cases hs:k.signs with
  |cons c t=>
   have hc:=Pz hk hs
   have hkb:Bq k=c::(t++Ce k):=by unfold Bq;rw[hs];rfl
   have hl:=hk.2.2
   rw[hkb]at hl ⊢
   rw[Nm _ _ k c t hs hc]
   refine(Qk xv c (t++Ce k) w hc (by simp at hl ⊢;omega)).mono ?_
   rintro e w' ⟨rfl,rfl⟩
   exact⟨rfl,As _ _⟩
  |nil=>
   by_cases hb:k.base=[64]
   ·obtain⟨t,_,h⟩:=he hs hb
    exact absurd h (by simp[Bt])
   rw[Ky _ _ k hs (Mk hk hs hb).2]
   exact Ns xv xs k w hsc hk hs hb
 |succ n ih=>
  intro hn k w hsc hk hr he
  cases hs:k.signs with
  |cons c t=>
   have hc:=Pz hk hs
   have hkb:Bq k=c::(t++Ce k):=by unfold Bq;rw[hs];rfl
   have hl:=hk.2.2
   rw[hkb]at hl ⊢
   rw[Nm _ _ k c t hs hc]
   refine(Qk xv c (t++Ce k) w hc (by simp at hl ⊢;omega)).mono ?_
   rintro e w' ⟨rfl,rfl⟩
   exact⟨rfl,As _ _⟩
  |nil=>
   by_cases hb:k.base=[64]
   ·have h1:=hr hb
    rw[J4]at h1
    cases hx:Ew xs k.name with
    |none=>rw[hx]at h1;cases h1
    |some x=>
     obtain⟨t,fv⟩:=x
     have hft:By (Al xs) k.name=some t:=(Ek hx).2.2
     have hto:Dc t:=hok _ (Ek hx).1
     refine Yy xv xs hok (n+1) k w hsc hk hs hb t fv hx hn (fun h85 f fs hfs W hW=>?_)
     have hrf:Cb (Al xs) f.kind:=hS t (Bs hft).1 (by rw[h85];decide) f (by rw[hfs];simp)
     have hkf:Co f.kind:=((hto.2.2.1.1 f (by rw[hfs];simp)).2.2.2.2 (by rw[h85];decide)).1
     exact ih (by omega) f.kind W hW hkf hrf (Rw he hs hb hft h85 hfs hrf)
   rw[Ky _ _ k hs (Mk hk hs hb).2]
   exact Ns xv xs k w hsc hk hs hb
theorem Xb{S:List Ty}(h:P5 S){k:Kd}(hr:Cb S k):Tw S 9 k:=by
 intro hs hb
 have h1:=hr hb
 cases hf:By S k.name with
 |none=>rw[hf]at h1;cases h1
 |some t=>exact⟨t,rfl,h.2.2 t (Bs hf).1⟩
theorem Zs(xv:Value)(xs:List (Ty × Value))(h:P5 (Al xs))(k:Kd)(w:World)(hsc:Kf w xv xs)(hk:Co k)(hr:Cb (Al xs) k):
  Calls prog 117 #[xv,.string ⟨(Bq k).toArray⟩] w (G0 (Qy (Al xs) k) w):=
 Qas xv xs (fun x hx=>h.1.1 x.1 (List.mem_map_of_mem hx)) h.2.1 9 (Ap _) k w hsc hk hr (Xb h hr)
theorem Qa8(xv:Value)(xs:List (Ty × Value))(h:P5 (Al xs))(f:Fd)(w:World)(hsc:Kf w xv xs)(hk:Co f.kind)(hr:Cb (Al xs) f.kind)(hl:f.given.length<=1000):
  Calls prog 83 #[xv,sfV f] w (G0 (Re (Al xs) f) w):=by
 have HF:=Aa (show Re (Al xs) f=if f.given=[]then Qy (Al xs) f.kind else f.given from rfl)
 have Hs:=Aa (fun W (h1:Kf W xv xs)=>Zs xv xs h f.kind W h1 hk hr)
 have Hsc:=Aa hsc
 unfold sfV
 generalize Bq f.kind=kd at *
 clear h hk hr hsc
 by_cases hg:f.given=[]
 ·have HF2:=Aa (HF.o.trans (if_pos hg))
  rw[hg]
  clear hg HF
  go_enter func83,ntmps83
  go_wp2_with fail
  refine(Hs.o _ (Hsc.o.below ((As _ _).alloc (Ap _) _))).mono ?_
  rintro e w1 ⟨rfl,hb1⟩
  go_wp2_with fail
  go_ret
  exact⟨by rw[HF2.o];rfl,((As _ _).alloc (Ap _) _).trans (hb1.mono (by simp))⟩
 have HF2:=Aa (HF.o.trans (if_neg hg))
 have t1:f.given.isEmpty=false:=by simpa using hg
 have t2:(!f.given.isEmpty)=true:=by simp[t1]
 clear hg HF
 go_enter func83,ntmps83
 go_wp2_with fail
 go_ret
 exact⟨by rw[HF2.o];rfl,(As _ _).alloc (Ap _) _⟩
theorem Su(s:List UInt8)(f k:Nat)(hf:f<=k)(hk:k<s.length):(s.drop f).take (k+1 - f)=(s.drop f).take (k - f)++[s[k]]:=by
 have h1:k - f<(s.drop f).length:=by simp;omega
 rw[show k+1 - f=(k - f)+1 by omega,Bn _ _ h1]
 simp[show f+(k - f)=k by omega]
theorem Z8(s:List UInt8)(f k:Nat)(hf:f<=k)(hk:k<s.length):s.drop f=(s.drop f).take (k - f)++s[k]::s.drop (k+1):=by
 have e1:(s.drop f).drop (k - f)=s[k]::s.drop (k+1):=by
  rw[List.drop_drop,show f+(k - f)=k by omega];exact List.drop_eq_getElem_cons hk
 rw[<-e1,List.take_append_drop]
theorem Cc(s:List UInt8)(c:UInt8)(m:Int)(hm:m=(c.toNat:Int))(w:World)(hs:s.length<=4000000):
  Calls prog 77 #[.string ⟨s.toArray⟩,.int .u8 m] w fun e w'=>
   ∃v,e=.returned v/\w'.ownsRow w.heap.size 9 1 v (Af c s).length (Ae (Af c s))/\Below w.heap.size w w':=by
 have Hm:=Aa hm
 have Hlen:=Aa (Gm c s)
 clear hm
 go_enter func77,ntmps77
 go_wp2_with fail
 go_loopw [5,6,7] (fun v y i wr=>∃(ps:List (List UInt8)) (f k:Nat),i=.int .i64 k/\k<=s.length/\y=.int .i64 f/\f<=k/\ps.length<=k/\Hid (Af c s=ps++Af c (s.drop f))/\Hid (c∉(s.drop f).take (k - f)) /\
   Hid (wr.ownsRow w.heap.size 9 1 v ps.length (Ae ps))/\Hid (Below w.heap.size w wr)) (fun _ _ i _=>s.length - (intOf i).toNat)
 case atStart=>exact⟨[],0,0,rfl,Nat.zero_le _,rfl,Ap _,by simp,rfl,by simp[Hid],World.ownsRow_lit (base:=w.heap.size) (e:=9) (size:=1) w #[] 0 (Ap _) (Nat.zero_le _) rfl,(As _ _).alloc (Ap _) _⟩
 case round=>
  obtain⟨ps,f,k,rfl,hk,rfl,hf,hps,hsp,hno,hown,hb⟩:=hrel
  by_cases hlt:k<s.length
  ·have hc:=(s[k]).toNat_lt
   by_cases he:s[k]=c
   ·have t1:(((s[k]).toNat:Int) == m)=true:=by rw[Hm.o];exact Bl he
    have Hsp:=Aa (show Af c s=(ps++[(s.drop f).take (k - f)])++Af c (s.drop (k+1))by
     rw[hsp.o,Z8 s f k hf hlt,he,J9 c _ _ hno.o]
     simp only[List.append_assoc,List.singleton_append]
     have e2:=Z8 s f k hf hlt
     rw[he]at e2
     rw[<-e2])
    have Hz:=Aa hb.o.size
    clear he
    have k1:(0:Int)<=(f:Int):=by omega
    have k2:(f:Int)<=(k:Int):=by omega
    have k3:(k:Int)<=(s.length:Int):=by omega
    go_wp2_with (at_builtin;refine Gt _ rfl _ _ 63 rfl w.heap.size 9 (.string ⟨#[]⟩) 16 underlying63 Dl rfl wr _ rfl rfl _ _ _ rfl rfl hown.o (by unfold maxLen;omega) (by omega) Hz.o ?_;intro v' w' hown' hb';have Ho:=Aa (show w'.ownsRow w.heap.size 9 1 v' (ps++[(s.drop f).take (k - f)]).length (Ae (ps++[(s.drop f).take (k - f)]))by rw[Ni,List.length_append];exact hown');have Hb:=Aa (hb.o.trans hb');clear hown' hb')
    go_roundw
    case rel=>exact⟨ps++[(s.drop f).take (k - f)],k+1,k+1,by go_num,by omega,by go_num,Ap _,by rw[List.length_append];simp;omega,Hsp.o,by simp[Hid],Ho.o,Hb.o⟩
    case measure=>simp[intOf];omega
   have t1:(((s[k]).toNat:Int) == m)=false:=by rw[Hm.o];exact An he
   have Hno:=Aa (show c∉(s.drop f).take (k+1 - f)by
    rw[Su s f k hf hlt]
    simp only[List.mem_append,List.mem_singleton,not_or]
    exact⟨hno.o,fun h=>he h.symm⟩)
   clear he
   go_wp2_with fail
   go_roundw
   case rel=>exact⟨ps,f,k+1,by go_num,by omega,rfl,by omega,by omega,hsp.o,Hno.o,hown.o,hb.o⟩
   case measure=>simp[intOf];omega
  ·obtain rfl:k=s.length:=by omega
   have Hsp:=Aa (show Af c s=ps++[s.drop f]by
    have h:=hno.o
    rw[List.take_of_length_le (by simp)]at h
    rw[hsp.o,Ft c _ h])
   have Hz:=Aa hb.o.size
   have k1:(0:Int)<=(f:Int):=by omega
   have k2:(f:Int)<=(s.length:Int):=by omega
   go_wp2_with (at_builtin;refine Gt _ rfl _ _ 63 rfl w.heap.size 9 (.string ⟨#[]⟩) 16 underlying63 Dl rfl wr _ rfl rfl _ _ _ rfl rfl hown.o (by unfold maxLen;omega) (by omega) Hz.o ?_;intro v' w' hown' hb';have Ho:=Aa (show w'.ownsRow w.heap.size 9 1 v' (ps++[s.drop f]).length (Ae (ps++[s.drop f]))by rw[Ni,List.length_append];exact hown');have Hb:=Aa (hb.o.trans hb');clear hown' hb')
   go_ret
   refine⟨_,rfl,?_,Hb.o⟩
   rw[Hsp.o];exact Ho.o
theorem Vi{b s:List UInt8}(h1:b≠[110])(h2:b≠[116])(h3:b≠[102]):Bv b s=false:=by
 unfold Bv;rw[if_neg h1,if_neg h2,if_neg h3]
theorem Qir(s:List UInt8):Bv [116] s=(E4 s && !(s == [39,39])):=by
 show (decide (2<s.length) && decide (s.head?=some 39) && decide (s.getLast?=some 39) && Dh (s.drop 1).dropLast)=((decide (2<=s.length) && decide (s.head?=some 39) && decide (s.getLast?=some 39) && Dh (s.drop 1).dropLast) && !(s == [39,39]))
 rcases Nat.lt_or_ge 2 s.length with h|h
 ·have e1:decide (2<s.length)=true:=by simpa using h
  have e2:decide (2<=s.length)=true:=by simp;omega
  have e3:(s == [39,39])=false:=by
   rw[beq_eq_false_iff_ne];rintro rfl;simp at h
  rw[e1,e2,e3];simp
 have e1:decide (2<s.length)=false:=by simp;omega
 rw[e1]
 match s,h with
 |[],_=>rfl
 |[_],_=>rfl
 |[a,b],_=>
  by_cases ha:a=39
  ·by_cases hb:b=39
   ·subst ha;subst hb;rfl
   simp[hb]
  simp[ha]
theorem Rn(b s:List UInt8)(w:World)(hs:s.length<=4000000):
  Calls prog 150 #[.string ⟨b.toArray⟩,.string ⟨s.toArray⟩] w fun e w'=>e=.returned (.bool (Bv b s))/\Below w.heap.size w w':=by
 by_cases h1:b=[110]
 ·subst h1
  have Hp:=Aa (fun W=>Db s 999999 W hs (by omega))
  have hf:Bv [110] s=(match Cf s with|some n=>decide (0<n)|none=>false):=rfl
  have hv:(Dj s 999999 && (s != [48]))=Bv [110] s:=by
   rw[hf]
   cases hd:Cf s with
   |none=>rw[Md hd];rfl
   |some n=>
    obtain⟨h9,e⟩:=Bx.1 hd
    rw[Me hd]
    have e1:decide (n<=999999)=true:=by simpa using h9
    rw[e1,Bool.true_and]
    by_cases h0:n=0
    ·subst h0
     rw[e,D1 (by omega)];decide
    have hne:s≠[48]:=by
     intro h
     rw[e]at h
     have:Aw n=Aw 0:=by rw[h,D1 (n:=0) (by omega)];decide
     exact h0 (Qga this)
    have e2:(s != [48])=true:=by simpa using hne
    rw[e2];simp;omega
  have Hv:=Aa hv
  clear hf hv
  go_enter func150,ntmps150
  go_wp2_with fail
  refine(Hp.o _).mono ?_
  rintro e w' ⟨n,hn,rfl,_,hb⟩
  have Hb:=Aa hb
  clear hb
  rcases Bool.eq_false_or_eq_true (Dj s 999999)with ho|ho
  ·have Ho:=Aa ho
   rw[ho]
   clear ho
   go_wp2_with fail
   go_ret
   exact⟨D4 (Ci (by rw[<-Hv.o,Ho.o];rfl)),Hb.o⟩
  have Ho:=Aa ho
  rw[ho]
  clear ho
  go_wp2_with fail
  go_ret
  exact⟨D4 (Ci (by rw[<-Hv.o,Ho.o];rfl)),Hb.o⟩
 by_cases h2:b=[116]
 ·subst h2
  have Hp:=Aa (fun W=>Sz s W hs)
  have Hv:=Aa (Qir s)
  clear h1
  go_enter func150,ntmps150
  go_wp2_with fail
  refine(Hp.o _).mono ?_
  rintro e w' ⟨rfl,rfl⟩
  rcases Bool.eq_false_or_eq_true (E4 s)with ho|ho
  ·have Ho:=Aa ho
   rw[ho]
   clear ho
   rcases Bool.eq_false_or_eq_true (s == [39,39])with hq|hq
   ·have Hq:=Aa hq
    have hq2:(s != [39,39])=false:=by simp[bne,hq]
    go_wp2_with fail
    go_ret
    exact⟨D4 (Ci (by rw[Hv.o,Ho.o,Hq.o];rfl)),As _ _⟩
   have Hq:=Aa hq
   have hq2:(s != [39,39])=true:=by simp[bne,hq]
   go_wp2_with fail
   go_ret
   exact⟨D4 (Ci (by rw[Hv.o,Ho.o,Hq.o];rfl)),As _ _⟩
  have Ho:=Aa ho
  rw[ho]
  clear ho
  go_wp2_with fail
  go_ret
  exact⟨D4 (Ci (by rw[Hv.o,Ho.o];rfl)),As _ _⟩
 by_cases h3:b=[102]
 ·subst h3
  have Hv:=Aa (show Bv [102] s=(s == [121,101,115])by show decide (s=[121,101,115])=_;by_cases h:s=[121,101,115]<;>simp[h])
  clear h1 h2
  go_enter func150,ntmps150
  go_wp2_with fail
  go_ret
  exact⟨D4 (Ci Hv.o.symm),As _ _⟩
 have Hv:=Aa (Vi (s:=s) h1 h2 h3)
 have q1:(b == [110])=false:=by simpa using h1
 have q2:(b == [116])=false:=by simpa using h2
 have q3:(b == [102])=false:=by simpa using h3
 clear h1 h2 h3
 go_enter func150,ntmps150
 go_wp2_with fail
 go_ret
 exact⟨D4 (Ci Hv.o.symm),As _ _⟩
def Cm(o:Option Fd)(w:World)(e:Ending)(w':World):Prop:=
 (match o with
  |some f=>e=.returned (.tuple #[sfV f,.bool true])
  |none=>∃(x:Int) (a b c:ByteArray),e=.returned (.tuple #[.agg #[.int .i64 x,.string a,.string b,.string c],.bool false]))/\Below w.heap.size w w'
theorem Cm.no{w w':World}{e:Ending}{o:Option Fd}(ho:o=none){x:Int}{a b c:ByteArray}(he:e=.returned (.tuple #[.agg #[.int .i64 x,.string a,.string b,.string c],.bool false]))(hb:Below w.heap.size w w'):Cm o w e w':=by
 rw[ho];exact⟨⟨x,a,b,c,he⟩,hb⟩
theorem Cm.yes{w w':World}{e:Ending}{o:Option Fd}{f:Fd}(ho:o=some f)(he:e=.returned (.tuple #[sfV f,.bool true]))(hb:Below w.heap.size w w'):Cm o w e w':=by
 rw[ho];exact⟨he,hb⟩
theorem Mp{w:World}{base:Nat}{v:Value}{a b:List UInt8}(h:w.ownsRow base 9 1 v [a,b].length (Ae [a,b])):
  ∃g c,v=.slice (some ⟨g,0,none⟩) 2 c/\base<=g/\g<w.heap.size/\w.cell? ⟨g,0,none⟩=some (.string ⟨a.toArray⟩)/\w.cell? ⟨g,1,none⟩=some (.string ⟨b.toArray⟩):=by
 rcases h.2 with⟨_,h0⟩|⟨g,cap,cur,rfl,hb,hh,_⟩
 ·simp at h0
 have hc:=fun j u hu=>h.cells (g:=g) rfl j u hu
 have e1:∀j,(⟨g,0,none⟩:Addr).add j=⟨g,j,none⟩:=fun j=>by unfold Addr.add;split<;>simp_all
 refine⟨g,cap,rfl,hb,(h.lt g rfl).2,?_,?_⟩
 ·have:=hc 0 _ rfl;rwa [e1]at this
 have:=hc 1 _ rfl;rwa [e1]at this
theorem Fp{w:World}{base:Nat}{v:Value}{a b d:List UInt8}(h:w.ownsRow base 9 1 v [a,b,d].length (Ae [a,b,d])):
  ∃g c,v=.slice (some ⟨g,0,none⟩) 3 c/\base<=g/\g<w.heap.size/\w.cell? ⟨g,0,none⟩=some (.string ⟨a.toArray⟩)/\w.cell? ⟨g,1,none⟩=some (.string ⟨b.toArray⟩)/\w.cell? ⟨g,2,none⟩=some (.string ⟨d.toArray⟩):=by
 rcases h.2 with⟨_,h0⟩|⟨g,cap,cur,rfl,hb,hh,_⟩
 ·simp at h0
 have hc:=fun j u hu=>h.cells (g:=g) rfl j u hu
 have e1:∀j,(⟨g,0,none⟩:Addr).add j=⟨g,j,none⟩:=fun j=>by unfold Addr.add;split<;>simp_all
 refine⟨g,cap,rfl,hb,(h.lt g rfl).2,?_,?_,?_⟩
 ·have:=hc 0 _ rfl;rwa [e1]at this
 ·have:=hc 1 _ rfl;rwa [e1]at this
 have:=hc 2 _ rfl;rwa [e1]at this
theorem Qp(st:UInt8)(s:List UInt8)(w:World)(hs:s.length<=1000)(hp:(Af 58 s).length≠(if st=69 then 2 else 3)):
  Calls prog 114 #[.string ⟨s.toArray⟩,.int .u8 (st.toNat:Int)] w (Cm (Bu st s) w):=by
 have hno:Bu st s=none:=by
  unfold Bu
  by_cases h:st=69
  ·rw[if_pos h]at hp ⊢
   have:Js (Af 58 s)=none:=by
    cases hh:Js (Af 58 s)with
    |none=>rfl
    |some x=>rw[(H9 (n:=x.1) (b:=x.2)).1 hh |>.1]at hp;simp at hp
   rw[this]
  rw[if_neg h]at hp ⊢
  have:Kg (Af 58 s)=none:=by
   cases hh:Kg (Af 58 s)with
   |none=>rfl
   |some x=>rw[(Fu (n:=x.1) (b:=x.2.1) (c:=x.2.2)).1 hh |>.1]at hp;simp at hp
  rw[this]
 have Hno:=Aa hno
 have Hl:=Aa (Gm 58 s)
 have hst:=st.toNat_lt
 clear hno
 have Hcut:=Aa (fun W=>Cc s 58 58 rfl W (by omega))
 generalize Af 58 s=ps at hp Hl Hcut
 by_cases h69:st=69
 ·rw[if_pos h69]at hp
  have t1:((st.toNat:Int) != 69)=false:=by have:=Bl h69;simpa using this
  have t2:((st.toNat:Int) == 69)=true:=Bl h69
  have t3:((ps.length:Int) != 2)=true:=by rw[bne_iff_ne];omega
  clear h69 hp
  go_enter func114,ntmps114
  go_wp2_with fail
  refine(Hcut.o _).mono ?_
  rintro e w1 ⟨v,rfl,ho,hb⟩
  obtain⟨A,c,rfl,_⟩:=Bh.own ho
  obtain⟨hc,hfz,hz⟩:=Bw hb
  have Hb:=Aa (((As w.heap.size w).alloc (Ap _) _).trans (hb.mono (by simp)))
  clear hb ho
  go_wp2_with fail
  all_goals
   refine bodyPost_ret (v:=.tuple #[sf0,.bool false]) (by simp[results,results114,go_sem,sf0,hc]) rfl ?_
   exact Cm.no Hno.o rfl ((((Hb.o.setCell (Ap _) _).setCell (Ap _) _).setCell (Ap _) _).setCell (Ap _) _)
 rw[if_neg h69]at hp
 have t1:((st.toNat:Int) != 69)=true:=by have:=An h69;simpa using this
 have t2:((st.toNat:Int) == 69)=false:=An h69
 have t3:((ps.length:Int) != 3)=true:=by rw[bne_iff_ne];omega
 clear h69 hp
 go_enter func114,ntmps114
 go_wp2_with fail
 refine(Hcut.o _).mono ?_
 rintro e w1 ⟨v,rfl,ho,hb⟩
 obtain⟨A,c,rfl,_⟩:=Bh.own ho
 obtain⟨hc,hfz,hz⟩:=Bw hb
 have Hb:=Aa (((As w.heap.size w).alloc (Ap _) _).trans (hb.mono (by simp)))
 clear hb ho
 go_wp2_with fail
 all_goals
  refine bodyPost_ret (v:=.tuple #[sf0,.bool false]) (by simp[results,results114,go_sem,sf0,hc]) rfl ?_
  exact Cm.no Hno.o rfl ((((Hb.o.setCell (Ap _) _).setCell (Ap _) _).setCell (Ap _) _).setCell (Ap _) _)
theorem Rr(a b:List UInt8):Dj a 200=false\/(Dj a 200=true/\Cf a=some 0)\/(∃n,Dj a 200=true/\Cf a=some n/\1<=n/\n<=200/\Au b=false)\/(∃n,Dj a 200=true/\Cf a=some n/\1<=n/\n<=200/\Au b=true):=by
 cases hd:Cf a with
 |none=>exact .inl (Md hd)
 |some n=>
  rw[Me hd]
  by_cases h:n<=200
  ·have e:decide (n<=200)=true:=by simpa using h
   rw[e]
   by_cases h0:n=0
   ·subst h0;exact .inr (.inl ⟨rfl,rfl⟩)
   rcases Bool.eq_false_or_eq_true (Au b)with hb|hb
   ·exact .inr (.inr (.inr ⟨n,rfl,rfl,by omega,h,hb⟩))
   exact .inr (.inr (.inl ⟨n,rfl,rfl,by omega,h,hb⟩))
  left;simpa using h
theorem Sw{a b:List UInt8}(h:Dj a 200=false\/Cf a=some 0\/Au b=false):Js [a,b]=none:=by
 cases hh:Js [a,b]with
 |none=>rfl
 |some x=>
  obtain⟨n,c⟩:=x
  obtain⟨e,h1,h2,h3⟩:=H9.1 hh
  simp at e
  obtain⟨rfl,rfl⟩:=e
  have hd:Cf (Aw n)=some n:=Bx.2 ⟨by omega,rfl⟩
  rcases h with h|h|h
  ·rw[Me hd]at h;simp at h;omega
  ·rw[hd]at h;injection h with h;omega
  rw[h3]at h;cases h
theorem Td{a b c:List UInt8}(h:Dj a 200=false\/Cf a=some 0\/Au b=false):Kg [a,b,c]=none:=by
 cases hh:Kg [a,b,c]with
 |none=>rfl
 |some x=>
  obtain⟨n,d,f⟩:=x
  obtain⟨e,h1,h2,h3⟩:=Fu.1 hh
  simp at e
  obtain⟨rfl,rfl,rfl⟩:=e
  have hd:Cf (Aw n)=some n:=Bx.2 ⟨by omega,rfl⟩
  rcases h with h|h|h
  ·rw[Me hd]at h;simp at h;omega
  ·rw[hd]at h;injection h with h;omega
  rw[h3]at h;cases h
theorem Qdk{a b:List UInt8}{n:Nat}(hd:Cf a=some n)(h1:1<=n)(h2:n<=200)(hb:Au b=true):Js [a,b]=some (n,b):=H9.2 ⟨by rw[(Bx.1 hd).2],h1,h2,hb⟩
theorem Jw{a b c:List UInt8}{n:Nat}(hd:Cf a=some n)(h1:1<=n)(h2:n<=200)(hb:Au b=true):Kg [a,b,c]=some (n,b,c):=Fu.2 ⟨by rw[(Bx.1 hd).2],h1,h2,hb⟩
theorem Qfl(s a b:List UInt8)(w:World)(hs:s.length<=1000)(hp:Af 58 s=[a,b])(ho:Dj a 200=false):
  Calls prog 114 #[.string ⟨s.toArray⟩,.int .u8 69] w (Cm (Bu 69 s) w):=by
 have hal:=Aj 58 s a (by rw[hp];simp)
 have hbl:=Aj 58 s b (by rw[hp];simp)
 have hF:Bu 69 s=(match Js [a,b]with|some (n,b)=>some ⟨n,b,Kd.nil,[]⟩|none=>none):=by unfold Bu;rw[if_pos rfl,hp];cases Js [a,b]<;>rfl
 have Hcut:=Aa (fun W=>Cc s 58 58 rfl W (by omega))
 rw[hp]at Hcut
 have Hnum:=Aa (fun W=>Db a 200 W (by omega) (by omega))
 have Hname:=Aa (fun W=>Cd b W (by omega))
 clear hp
 rw[Sw (.inl ho)]at hF
 have HF:=Aa hF
 have Ho:=Aa ho
 clear hF ho
 go_enter func114,ntmps114
 go_wp2_with fail
 refine(Hcut.o _).mono ?_
 rintro e w1 ⟨v,rfl,ho,hb⟩
 obtain⟨g,c,rfl,hg1,hg2,c0,c1⟩:=Mp ho
 simp at hg1
 obtain⟨hc,hfz,hz⟩:=Bw hb
 have Hb:=Aa (((As w.heap.size w).alloc (Ap _) _).trans (hb.mono (by simp)))
 have hzz:=hz w.heap.size (by simp)
 clear hb ho
 go_wp2_with fail
 refine(Hnum.o _).mono ?_
 rintro e w2 ⟨n,hn,rfl,hdn,hb2⟩
 rw[Ho.o]
 obtain⟨hc2,hfz2,hz2⟩:=Bw hb2
 have Hb2:=Aa (Hb.o.trans (hb2.mono Hb.o.size))
 have hsz:=Hb2.o.size
 have hz3:=hz2 _ hzz
 clear hb2
 go_wp2_with fail
 refine bodyPost_ret (v:=.tuple #[.agg #[.int .i64 n,.string ⟨b.toArray⟩,.string ⟨#[]⟩,.string ⟨#[]⟩],.bool false]) (by simp[results,results114,go_sem,hc,hc2,hzz,hz3]) rfl ?_
 exact Cm.no HF.o rfl (by(repeat (first|exact Hb2.o|refine Below.setCell ?_ (by first|exact Ap _|(simp;omega)|omega) _|refine Below.alloc ?_ (by first|exact Ap _|(simp;omega)|omega) _|refine Below.drew ?_)))
theorem Qfv(s a b:List UInt8)(w:World)(hs:s.length<=1000)(hp:Af 58 s=[a,b])(ho:Dj a 200=true)(hd:Cf a=some 0):
  Calls prog 114 #[.string ⟨s.toArray⟩,.int .u8 69] w (Cm (Bu 69 s) w):=by
 have hal:=Aj 58 s a (by rw[hp];simp)
 have hbl:=Aj 58 s b (by rw[hp];simp)
 have hF:Bu 69 s=(match Js [a,b]with|some (n,b)=>some ⟨n,b,Kd.nil,[]⟩|none=>none):=by unfold Bu;rw[if_pos rfl,hp];cases Js [a,b]<;>rfl
 have Hcut:=Aa (fun W=>Cc s 58 58 rfl W (by omega))
 rw[hp]at Hcut
 have Hnum:=Aa (fun W=>Db a 200 W (by omega) (by omega))
 have Hname:=Aa (fun W=>Cd b W (by omega))
 clear hp
 rw[Sw (.inr (.inl hd))]at hF
 have HF:=Aa hF
 have Ho:=Aa ho
 have Hd:=Aa hd
 clear hF ho hd
 go_enter func114,ntmps114
 go_wp2_with fail
 refine(Hcut.o _).mono ?_
 rintro e w1 ⟨v,rfl,ho,hb⟩
 obtain⟨g,c,rfl,hg1,hg2,c0,c1⟩:=Mp ho
 simp at hg1
 obtain⟨hc,hfz,hz⟩:=Bw hb
 have Hb:=Aa (((As w.heap.size w).alloc (Ap _) _).trans (hb.mono (by simp)))
 have hzz:=hz w.heap.size (by simp)
 clear hb ho
 go_wp2_with fail
 refine(Hnum.o _).mono ?_
 rintro e w2 ⟨n,hn,rfl,hdn,hb2⟩
 rw[Ho.o]
 obtain⟨hc2,hfz2,hz2⟩:=Bw hb2
 have Hb2:=Aa (Hb.o.trans (hb2.mono Hb.o.size))
 have hsz:=Hb2.o.size
 have hz3:=hz2 _ hzz
 clear hb2
 obtain rfl:=hdn 0 Hd.o
 clear hdn
 go_wp2_with fail
 refine bodyPost_ret (v:=.tuple #[.agg #[.int .i64 0,.string ⟨b.toArray⟩,.string ⟨#[]⟩,.string ⟨#[]⟩],.bool false]) (by simp[results,results114,go_sem,hc,hc2,hzz,hz3]) rfl ?_
 exact Cm.no HF.o rfl (by(repeat (first|exact Hb2.o|refine Below.setCell ?_ (by first|exact Ap _|(simp;omega)|omega) _|refine Below.alloc ?_ (by first|exact Ap _|(simp;omega)|omega) _|refine Below.drew ?_)))
theorem Qgr(s a b:List UInt8)(w:World)(hs:s.length<=1000)(hp:Af 58 s=[a,b])(n0:Nat)(ho:Dj a 200=true)(hd:Cf a=some n0)(h1:1<=n0)(h2:n0<=200)(hnm:Au b=false):
  Calls prog 114 #[.string ⟨s.toArray⟩,.int .u8 69] w (Cm (Bu 69 s) w):=by
 have hal:=Aj 58 s a (by rw[hp];simp)
 have hbl:=Aj 58 s b (by rw[hp];simp)
 have hF:Bu 69 s=(match Js [a,b]with|some (n,b)=>some ⟨n,b,Kd.nil,[]⟩|none=>none):=by unfold Bu;rw[if_pos rfl,hp];cases Js [a,b]<;>rfl
 have Hcut:=Aa (fun W=>Cc s 58 58 rfl W (by omega))
 rw[hp]at Hcut
 have Hnum:=Aa (fun W=>Db a 200 W (by omega) (by omega))
 have Hname:=Aa (fun W=>Cd b W (by omega))
 clear hp
 rw[Sw (.inr (.inr hnm))]at hF
 have HF:=Aa hF
 have Ho:=Aa ho
 have Hd:=Aa hd
 have Hnm:=Aa hnm
 clear hF ho hd hnm
 go_enter func114,ntmps114
 go_wp2_with fail
 refine(Hcut.o _).mono ?_
 rintro e w1 ⟨v,rfl,ho,hb⟩
 obtain⟨g,c,rfl,hg1,hg2,c0,c1⟩:=Mp ho
 simp at hg1
 obtain⟨hc,hfz,hz⟩:=Bw hb
 have Hb:=Aa (((As w.heap.size w).alloc (Ap _) _).trans (hb.mono (by simp)))
 have hzz:=hz w.heap.size (by simp)
 clear hb ho
 go_wp2_with fail
 refine(Hnum.o _).mono ?_
 rintro e w2 ⟨n,hn,rfl,hdn,hb2⟩
 rw[Ho.o]
 obtain⟨hc2,hfz2,hz2⟩:=Bw hb2
 have Hb2:=Aa (Hb.o.trans (hb2.mono Hb.o.size))
 have hsz:=Hb2.o.size
 have hz3:=hz2 _ hzz
 clear hb2
 obtain rfl:=hdn n0 Hd.o
 clear hdn
 go_wp2_with fail
 refine(Hname.o _).mono ?_
 rintro e w3 ⟨rfl,rfl⟩
 rw[Hnm.o]
 go_wp2_with fail
 refine bodyPost_ret (v:=.tuple #[.agg #[.int .i64 n0,.string ⟨b.toArray⟩,.string ⟨#[]⟩,.string ⟨#[]⟩],.bool false]) (by simp[results,results114,go_sem,hc,hc2,hzz,hz3]) rfl ?_
 exact Cm.no HF.o rfl (by(repeat (first|exact Hb2.o|refine Below.setCell ?_ (by first|exact Ap _|(simp;omega)|omega) _|refine Below.alloc ?_ (by first|exact Ap _|(simp;omega)|omega) _|refine Below.drew ?_)))
theorem Qfw(s a b:List UInt8)(w:World)(hs:s.length<=1000)(hp:Af 58 s=[a,b])(n0:Nat)(ho:Dj a 200=true)(hd:Cf a=some n0)(h1:1<=n0)(h2:n0<=200)(hnm:Au b=true):
  Calls prog 114 #[.string ⟨s.toArray⟩,.int .u8 69] w (Cm (Bu 69 s) w):=by
 have hal:=Aj 58 s a (by rw[hp];simp)
 have hbl:=Aj 58 s b (by rw[hp];simp)
 have hF:Bu 69 s=(match Js [a,b]with|some (n,b)=>some ⟨n,b,Kd.nil,[]⟩|none=>none):=by unfold Bu;rw[if_pos rfl,hp];cases Js [a,b]<;>rfl
 have Hcut:=Aa (fun W=>Cc s 58 58 rfl W (by omega))
 rw[hp]at Hcut
 have Hnum:=Aa (fun W=>Db a 200 W (by omega) (by omega))
 have Hname:=Aa (fun W=>Cd b W (by omega))
 clear hp
 rw[Qdk hd h1 h2 hnm]at hF
 have HF:=Aa hF
 have Ho:=Aa ho
 have Hd:=Aa hd
 have Hnm:=Aa hnm
 clear hF ho hd hnm
 go_enter func114,ntmps114
 go_wp2_with fail
 refine(Hcut.o _).mono ?_
 rintro e w1 ⟨v,rfl,ho,hb⟩
 obtain⟨g,c,rfl,hg1,hg2,c0,c1⟩:=Mp ho
 simp at hg1
 obtain⟨hc,hfz,hz⟩:=Bw hb
 have Hb:=Aa (((As w.heap.size w).alloc (Ap _) _).trans (hb.mono (by simp)))
 have hzz:=hz w.heap.size (by simp)
 clear hb ho
 go_wp2_with fail
 refine(Hnum.o _).mono ?_
 rintro e w2 ⟨n,hn,rfl,hdn,hb2⟩
 rw[Ho.o]
 obtain⟨hc2,hfz2,hz2⟩:=Bw hb2
 have Hb2:=Aa (Hb.o.trans (hb2.mono Hb.o.size))
 have hsz:=Hb2.o.size
 have hz3:=hz2 _ hzz
 clear hb2
 obtain rfl:=hdn n0 Hd.o
 clear hdn
 go_wp2_with fail
 refine(Hname.o _).mono ?_
 rintro e w3 ⟨rfl,rfl⟩
 rw[Hnm.o]
 go_wp2_with fail
 refine bodyPost_ret (v:=.tuple #[sfV ⟨n0,b,Kd.nil,[]⟩,.bool true]) (by simp[results,results114,go_sem,sfV,Kd.nil,Bq,Ce,hc,hc2,hzz,hz3]) rfl ?_
 exact Cm.yes HF.o rfl (by(repeat (first|exact Hb2.o|refine Below.setCell ?_ (by first|exact Ap _|(simp;omega)|omega) _|refine Below.alloc ?_ (by first|exact Ap _|(simp;omega)|omega) _|refine Below.drew ?_)))
theorem Sb(s a b:List UInt8)(w:World)(hs:s.length<=1000)(hp:Af 58 s=[a,b]):
  Calls prog 114 #[.string ⟨s.toArray⟩,.int .u8 69] w (Cm (Bu 69 s) w):=by
 rcases Rr a b with ho|⟨ho,hd⟩|⟨n0,ho,hd,h1,h2,hnm⟩|⟨n0,ho,hd,h1,h2,hnm⟩
 ·exact Qfl s a b w hs hp ho
 ·exact Qfv s a b w hs hp ho hd
 ·exact Qgr s a b w hs hp n0 ho hd h1 h2 hnm
 exact Qfw s a b w hs hp n0 ho hd h1 h2 hnm
end
end Go.Proofs.YtkigmebejmmikaaGreatDoor
