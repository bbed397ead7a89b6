/- Texts joined. Conditions: as each theorem names them. -/
import Derived.Sort.Walk0
import Derived.Test.YtkigmebejmmikaaGreatDoorV14
set_option maxRecDepth 100000
set_option maxHeartbeats 32000000
set_option linter.unusedVariables false
set_option linter.unusedSimpArgs false
namespace Go.Proofs.YtkigmebejmmikaaGreatDoor
open Go.RowKit Go.Proofs.Tryz
section
attribute [local go_sem] Qo1 Qof Qnv Qlx ByteArray.mk_append_mk
theorem Bh.sub{w:World}{g o n:Nat}{xs:List Value}(h:Bh w (some ⟨g,o,none⟩) n xs)(a k:Nat)(hk:a+k<=n):Bh w (some ⟨g,o+a,none⟩) k ((xs.drop a).take k):=by
 refine⟨by have:=h.1;simp;omega,by have:=h.2.1;omega,fun hn=>?_⟩;obtain⟨b,off,e,hlt,hc⟩:=h.2.2 aG;injection e with e;injection e with e1 e2;subst e1 e2;refine⟨_,_,rfl,hlt,fun j u hj=>?_⟩
 have:=hc (a+j) u (by
  rw[List.getElem?_take]at hj;split at hj
  ·rwa [List.getElem?_drop]at hj
  cases hj)
 rwa [Nat.add_assoc]
abbrev P1(B:Nat)(W:World)(g n c:Nat)(xs:List (List UInt8)):Prop:=W.ownsRow B 9 1 (.slice (g,0) n c) n (Ah xs)
structure Kx(w0:World)(xs:List (List UInt8))(k:Nat)(x:List UInt8)(l0 l4 l9 l10 l14 l15:Bool)(u0 u4 u9 u10 u14 u15:Value)(W:World):Prop where
 bel:Below w0 w0 W
 d10:l10=true->l4=true/\l9=true
 d14:l14=true->l10=true
 d15:l15=true->l14=true
 s0:l0=true->l4=false->∃b,u0=.slice (some ⟨b,0,none⟩) 0 0/\P1 w0.heap.size W b 0 0 []
 s4:l4=true->l10=false->∃b c,u4=.slice (some ⟨b,0,none⟩) k c/\P1 w0.heap.size W b k c (xs.take k)
 s9:l9=true->l10=false->∃b,u9=.slice (some ⟨b,0,none⟩) 1 1/\w0.heap.size<=b/\b<W.heap.size/\W.cell? ⟨b,0,none⟩=x/\(l0=true->l4=false->u0.ownBlock≠some b)/\(l4=true->u4.ownBlock≠some b)
 s10:l10=true->l14=false->∃b c,u10=.slice (some ⟨b,0,none⟩) (k+1) c/\P1 w0.heap.size W b (k+1) c (xs.take k++[x])
 s14:l14=true->∃b c,u14=.slice (some ⟨b,0,none⟩) (xs.length+1) c/\P1 w0.heap.size W b (xs.length+1) c (xs.take k++x::xs.drop k)
 s15:l15=true->u15=u14
section
variable {w0 W W':World} {xs:List (List UInt8)} {k:Nat} {x:List UInt8} {l0 l4 l9 l10 l14 l15:Bool} {u0 u4 u9 u10 u14 u15:Value}
theorem Kx.start:Kx w0 xs k x false false false false false false u0 u4 u9 u10 u14 u15 w0.drew:=
 ⟨(Aw _ _).drew,by simp,by simp,by simp,by simp,by simp,by simp,by simp,by simp,by simp⟩
theorem Kx.op0(h:Kx w0 xs k x false l4 l9 l10 l14 l15 u0 u4 u9 u10 u14 u15 W)(h4:l4=false):Kx w0 xs k x true l4 l9 l10 l14 l15 (.slice (W,0) 0 0) u4 u9 u10 u14 u15 (W.alloc (.cells #[] 9)):=by
 subst h4;have hb:=(Aw W.heap.size W).alloc (Ar _) (.cells #[] 9);refine⟨h.bel.alloc h.bel.size _,h.d10,h.d14,h.d15,fun _ _=>⟨_,rfl,Pc W _ _ h.bel.size⟩,by simp,fun h9 h10=>?_,fun h1 h2=>?_,fun h1=>?_,h.s15⟩
 ·obtain⟨b,e,e1,e2,e3,_,_⟩:=h.s9 h9 h10;exact⟨b,e,e1,ac e2 hb.size,(hb.cell (p:=⟨b,0,none⟩) e2).trans e3,fun _ _ e=>absurd (show W.heap.size=b by injection e) aG,by simp⟩
 ·obtain⟨b,c,e,ho⟩:=h.s10 h1 h2;exact⟨b,c,e,Ba ho hb⟩
 obtain⟨b,c,e,ho⟩:=h.s14 h1;exact⟨b,c,e,Ba ho hb⟩
theorem Kx.op4(h:Kx w0 xs k x l0 false l9 l10 l14 l15 u0 u4 u9 u10 u14 u15 W){b g c:Nat}(e0:u0=.slice (b,0) 0 0)(hl:w0.heap.size<=b)(ho:P1 w0.heap.size W' g k c (xs.take k))(hg:W.grownBy W' (some b))(hw:g=b\/W.heap.size<=g)(h0:l0=true)(v4:Value)(e4:v4=.slice (g,0) k c):
  Kx w0 xs k x l0 true l9 l10 l14 l15 u0 v4 u9 u10 u14 u15 W':=by
 subst e4;have h10:l10=false:=by cases hq:l10 with|false=>rfl|true=>exact absurd (h.d10 hq).1 aJ
 have h14:l14=false:=by cases hq:l14 with|false=>rfl|true=>exact absurd (h10.symm.trans (h.d14 hq)) aJ
 subst h10 h14;refine⟨h.bel.grown hg h.bel.size (fun q hq=>by injection hq with hq;omega),by simp,by simp,h.d15,by simp,fun _ _=>⟨g,c,rfl,ho⟩,fun h9 _=>?_,by simp,by simp,h.s15⟩;obtain⟨b9,e,e1,e2,e3,e4,_⟩:=h.s9 h9 rfl;have hne:=e4 h0 rfl;rw[e0]at hne;refine⟨b9,e,e1,ac e2 hg.size,hg.cell e3 (fun e=>hne e.symm),by simp,fun _ e=>?_⟩;have e:g=b9:=by injection e
 rcases hw with hw|hw
 ·exact hne (by rw[<-hw,e];rfl)
 omega
theorem Kx.op9(h:Kx w0 xs k x l0 l4 false l10 l14 l15 u0 u4 u9 u10 u14 u15 W)(h10:l10=false):Kx w0 xs k x l0 l4 true l10 l14 l15 u0 u4 (.slice (W,0) 1 1) u10 u14 u15 (W.alloc (.cells #[x] 9)):=by
 subst h10;have h14:l14=false:=by cases hq:l14 with|false=>rfl|true=>exact absurd (h.d14 hq) aJ
 subst h14;have hb:=(Aw W.heap.size W).alloc (Ar _) (.cells #[x] 9);refine⟨h.bel.alloc h.bel.size _,by simp,by simp,h.d15,fun h0 h4=>?_,fun h4 h5=>?_,fun _ _=>⟨_,rfl,h.bel.size,by simp,by simp,fun h0 h4 e=>?_,fun h4 e=>?_⟩,by simp,by simp,h.s15⟩
 ·obtain⟨b,e,ho⟩:=h.s0 h0 h4;exact⟨b,e,Ba ho hb⟩
 ·obtain⟨b,c,e,ho⟩:=h.s4 h4 h5;exact⟨b,c,e,Ba ho hb⟩
 ·obtain⟨b,e',ho⟩:=h.s0 h0 h4;rw[e']at e;have:=(ho.lt _ e).2;omega
 obtain⟨b,c,e',ho⟩:=h.s4 h4 rfl;rw[e']at e;have:=(ho.lt _ e).2;omega
theorem Kx.op10(h:Kx w0 xs k x l0 l4 l9 false l14 l15 u0 u4 u9 u10 u14 u15 W)(h4:l4=true)(h9:l9=true){b g c:Nat}(hl:w0.heap.size<=b)(ho:P1 w0.heap.size W' g (k+1) c (xs.take k++[x]))(hg:W.grownBy W' (some b))(v10:Value)(e10:v10=.slice (g,0) (k+1) c):
  Kx w0 xs k x l0 l4 l9 true l14 l15 u0 u4 u9 v10 u14 u15 W':=by
 have h14:l14=false:=by cases hq:l14 with|false=>rfl|true=>exact absurd (h.d14 hq) aJ
 subst e10 h4 h9 h14;exact⟨h.bel.grown hg h.bel.size (fun q hq=>by injection hq with hq;omega),by simp,by simp,h.d15,by simp,by simp,by simp,fun _ _=>⟨g,c,rfl,ho⟩,by simp,h.s15⟩
theorem Kx.op14(h:Kx w0 xs k x l0 l4 l9 l10 false l15 u0 u4 u9 u10 u14 u15 W)(h10:l10=true){b g c:Nat}(hl:w0.heap.size<=b)(ho:P1 w0.heap.size W' g (xs.length+1) c (xs.take k++x::xs.drop k))(hg:W.grownBy W' (some b))(v14:Value)(e14:v14=.slice (g,0) (xs.length+1) c):
  Kx w0 xs k x l0 l4 l9 l10 true l15 u0 u4 u9 u10 v14 u15 W':=by
 have h15:l15=false:=by cases hq:l15 with|false=>rfl|true=>exact absurd (h.d15 hq) aJ
 subst e14 h10 h15;have:=(h.d10 rfl).1;subst this;exact⟨h.bel.grown hg h.bel.size (fun q hq=>by injection hq with hq;omega),fun _=>⟨rfl,(h.d10 rfl).2⟩,by simp,by simp,by simp,by simp,by simp,by simp,fun _=>⟨g,c,rfl,ho⟩,by simp⟩
end
def Qmp(n:Nat)(xs ys:List (List UInt8))(w:World)(e:Ending)(w':World):Prop:=
 ∃ga ca gb cb,e=.returned (.tuple #[.slice (some ⟨ga,0,none⟩) n ca,.slice (some ⟨gb,0,none⟩) n cb])/\P1 w.heap.size w' ga n ca xs/\P1 w.heap.size w' gb n cb ys/\ga≠gb/\Below w w w'
theorem Qad(names texts:List (List UInt8))(m:Nat)(h1:m<names.length)(h2:m<texts.length):(names.zip texts).take (m+1)=(names.zip texts).take m++[(names[m],texts[m])]:=by
 rw[Bx _ m aO];simp
theorem Qin(A B:Option Addr)(n c d:Nat)(names texts:List (List UInt8))(w:World)(hr1:Bh w A n (Ah names))(hr2:Bh w B n (Ah texts))(hn:n<=1000):
  Calls prog 69 #[.slice A n c,.slice B n d] w (Qmp n ((Gg (·.1) (names.zip texts)).map (·.1)) ((Gg (·.1) (names.zip texts)).map (·.2)) w):=by
 have hn1:names.length=n:=by have:=hr1.1;simpa [Ah]using this
 have hn2:texts.length=n:=by have:=hr2.1;simpa [Ah]using this
 go_enter func69,ntmps69;go_wp2_with fail;generalize hw1:World.alloc (World.alloc w _) _=w1;have hb1:Below w w w1:=by rw[<-hw1];exact((Aw _ _).alloc (Ar _) _).alloc aL _
 have ho1:P1 w.heap.size w1 w 0 0 []:=by rw[<-hw1];exact Ba (Pc w _ _ (Ar _)) ((Aw _ _).alloc (Ar _) _)
 have ho2:P1 w.heap.size w1 (w.heap.size+1) 0 0 []:=by rw[<-hw1];have:=Pc (w.alloc (.cells #[] 9)) 9 w.heap.size aL;show World.ownsRow _ _ _ _ _ _ _;simpa [Ah]using this
 have Hb1:=Aa hb1;have Ho1:=Aa ho1;have Ho2:=Aa ho2;have Hr1:=Aa hr1;have Hr2:=Aa hr2;clear hw1 hb1 ho1 ho2 hr1 hr2;go_loopw [8,6,7,9] (fun i a b x wr=>∃(m ga ca gb cb:Nat),i=.int .i64 m/\a=.slice (ga,0) m ca/\b=.slice (gb,0) m cb/\m<=n/\Hid (ga≠gb)/\Hid (P1 w.heap.size wr ga m ca ((Gg (·.1) ((names.zip texts).take m)).map (·.1)))/\Hid (P1 w.heap.size wr gb m cb ((Gg (·.1) ((names.zip texts).take m)).map (·.2)))/\Hid (Below w w wr)) (fun i _ _ _ _=>n - (intOf i).toNat)
 case atStart=>exact⟨0,w.heap.size,0,w.heap.size+1,0,rfl,rfl,rfl,ag _,by show _≠_;omega,Ho1.o,Ho2.o,Hb1.o⟩
 case round=>
  obtain⟨m,ga,ca,gb,cb,rfl,rfl,rfl,hm,Hne,Hoa,Hob,Hbr⟩:=hrel;have m1:(0:Int)<=(m:Int):=aG;obtain⟨wo,rfl⟩:∃wo,wo=wr:=⟨_,rfl⟩
  by_cases hlt:m<n
  ·have m2:(m:Int)<(n:Int):=aG;have hlL:(Gg (·.1) ((names.zip texts).take m)).length=m:=by rw[(Je _ _).length_eq];simp;omega
   obtain⟨_,_,ea,hra⟩:=Bh.own Hoa.o;injection ea with ea1 ea2 ea3;subst ea1 ea3;obtain⟨_,_,eb,hrb⟩:=Bh.own Hob.o;injection eb with eb1 eb2 eb3;subst eb1 eb3;have hla:=Hoa.o.lt ga rfl;have hlb:=Hob.o.lt gb rfl;have hca:m<=ca:=Qas Hoa.o;have hcb:m<=cb:=Qas Hob.o;obtain⟨b1,o1,rfl,hb1,hc1⟩:=(Hr1.o.below Hbr.o).at_ hlt;obtain⟨b2,o2,rfl,hb2,hc2⟩:=(Hr2.o.below Hbr.o).at_ hlt;have hm1:m<names.length:=aG;have hm2:m<texts.length:=aG;replace hc1:wo.cell? ⟨b1,o1+m,none⟩=some (.string ⟨names[m].toArray⟩):=by simpa [Ah]using hc1
   replace hc2:wo.cell? ⟨b2,o2+m,none⟩=some (.string ⟨texts[m].toArray⟩):=by simpa [Ah]using hc2
   have Hzp:=Aa (Qad names texts m hm1 hm2);generalize names[m]=x at *;generalize texts[m]=y at *;obtain⟨L,hL⟩:∃L,L=Gg (·.1) ((names.zip texts).take m):=⟨_,rfl⟩
   rw[<-hL]at hlL Hoa Hob;obtain⟨La,hLa⟩:∃La,La=L.map (·.1):=⟨_,rfl⟩
   obtain⟨Lb,hLb⟩:∃Lb,Lb=L.map (·.2):=⟨_,rfl⟩
   rw[<-hL,<-hLa]at hra;rw[<-hL,<-hLb]at hrb;have hlLa:La.length=m:=by rw[hLa];simpa using hlL
   have hlLb:Lb.length=m:=by rw[hLb];simpa using hlL
   have HL:=Aa hL;have HLa:=Aa hLa;have HLb:=Aa hLb;have HlL:=Aa hlL;have Hra:=Aa hra;have Hrb:=Aa hrb;clear hL hLa hLb hlL hra hrb;go_wp2_with fail;go_loopw [9] (fun q wi=>∃k:Nat,q=.int .i64 k/\k<=m/\Hid (∀z∈L.take k,z.1<x)/\Hid (Below wo wo wi)) (fun q _=>m - (intOf q).toNat)
   case atStart=>exact⟨0,rfl,ag _,by show ∀z∈_,_;simp,Aw _ _⟩
   case round=>
    obtain⟨k,rfl,hk,Hsm,Hbi⟩:=hrel;have k1:(0:Int)<=(k:Int):=aG;obtain⟨wi,hwi⟩:∃wi,wi=wr:=⟨_,rfl⟩
    by_cases hkm:k<m
    ·have k2:(k:Int)<(m:Int):=aG;have hkL:k<L.length:=fH;obtain⟨_,_,eq,_,hca0⟩:=(Hra.o.below Hbi.o).at_ hkm;injection eq with eq;injection eq with eq1 eq2 _;subst eq1 eq2;replace hca0:wr.cell? ⟨ga,k,none⟩=some (.string ⟨L[k].1.toArray⟩):=by simpa [Ah,HLa.o]using hca0
     have hcx0:=(Hbi.o.cell (p:=⟨b1,o1+m,none⟩) hb1).trans hc1;have l1:ga<wr.heap.size:=ac hla.2 Hbi.o.size;have l2:b1<wr.heap.size:=ac hb1 Hbi.o.size;have Hts:=Aa (Bx L k hkL);have Hlk:=@Aa (¬L[k].1<x->¬(fun z:List UInt8 × List UInt8=>z.1) L[k]<(fun z:List UInt8 × List UInt8=>z.1) (x,y)) id;by_cases hz:L[k].1<x
     ·have t1:Op.bytesLess L[k].1 x=true:=by rw[bytesLess_eq];simpa using hz
      have Hs2:=Aa (show ∀z∈L.take (k+1),z.1<x from by
       intro z hz2;rw[Hts.o]at hz2;rcases af.1 hz2 with hz2|hz2
       ·exact Hsm.o z hz2
       simp only[ap]at hz2;subst hz2;exact hz)
      clear hz;generalize L[k].1=z at *;go_wp2_with fail;refine rgB ?_;iterate 15 refine sq ?_
      refine Xi fun w6 HB=>?_;have Hb6:=Aa (Hbi.o.trans (HB.o.mono Hbi.o.size));clear HB;go_wp2_with fail;go_roundw
      case rel=>exact⟨k+1,by go_num,by omega,Hs2.o,Hb6.o⟩
      case measure=>simp[intOf];omega
     have t1:Op.bytesLess L[k].1 x=false:=by rw[bytesLess_eq];simpa using hz
     have Hge:=Aa (Hlk.o hz);clear hz Hlk;have Hkk:=Aa hkL;generalize hzz:L[k].1=z at *;clear hzz;go_wp2_with fail;refine rgB ?_;iterate 15 refine sq ?_
     refine Xi fun w7 HB=>?_;have Hbj:=Aa (Hbi.o.trans (HB.o.mono Hbi.o.size));clear HB hca0 hcx0 l1 l2 t1;go_wp2_with fail;have hins:Gg (·.1) ((names.zip texts).take (m+1))=L.take k++(x,y)::L.drop k:=by
      rw[Hzp.o,Qaw,<-HL.o];exact Qb0 (·.1) (x,y) L k fH Hsm.o (fun h=>Hge.o)
     have Hxa:=Aa (show (Gg (·.1) ((names.zip texts).take (m+1))).map (·.1)=La.take k++x::La.drop k by rw[hins,HLa.o];simp[List.map_take,List.map_drop]);have Hxb:=Aa (show (Gg (·.1) ((names.zip texts).take (m+1))).map (·.2)=Lb.take k++y::Lb.drop k by rw[hins,HLb.o];simp[List.map_take,List.map_drop]);clear hins;have Hgar:=Aa (Hra.o.below Hbj.o);have hcx:=(Hbj.o.cell (p:=⟨b1,o1+m,none⟩) hb1).trans hc1;have hlx:b1<w7.heap.size:=ac hb1 Hbj.o.size;have hkca:k<=ca:=aG;have hkcb:k<=cb:=aG;have hkma:k<=m:=hk;refine rgF (fun l u W=>Kx w7 La k x (l 0) (l 4) (l 9) (l 10) (l 14) (l 15) (u 0) (u 4) (u 9) (u 10) (u 14) (u 15) W) (El w7) (fun _ _ _ h=>G9 h.bel) Kx.start ?_
     refine Ga (fun _=>True) (by
      intro l u W hl hp hF hG hi K hK;have h:Kx w7 La k x (l 0) (l 4) (l 9) (l 10) (l 14) (l 15) (u 0) (u 4) (u 9) (u 10) (u 14) (u 15) W:=hF.o;rw[hl]at h;have h4:=(hi.o 4 bQ).1;clear hp;have Hh:=Aa (h.op0 h4);clear h h4 hi hG;go_simp;exact hK _ _ _ Ac Hh.o rfl) ?_
     refine sqI 15 ?_;refine sq ?_;refine sq ?_
     refine Ga (fun _=>True) (by
      intro l u W hl hp hF hG hi K hK;have h:Kx w7 La k x (l 0) (l 4) (l 9) (l 10) (l 14) (l 15) (u 0) (u 4) (u 9) (u 10) (u 14) (u 15) W:=hF.o;rw[hl]at h;simp[Region.binds,Cg]at hp;obtain⟨b,e0,ho⟩:=h.s0 bc rfl;have hb:=ho.lt b rfl;simp only[Region.wanted,if_true];refine Jt W (.tmp 35) (.tmp 38) 63 rfl w7 9 aa 16 underlying63 Ej aJ b 0 0 (Ah []) ?_ (ga,0) k ca (Ah (La.take k)) ?_ ?_ (Ja _) ho aU aG h.bel.size ?_
      ·simp[hp,e0];rfl
      ·exact gE
      ·exact kg
      intro g' c' w' ho' hg' hw';refine hK _ _ _ Ac ?_ rfl;simp only[am]at ho' ⊢;exact h.op4 e0 hb.1 ho' hg' hw' bc _ rfl) ?_
     refine sq ?_;refine sq ?_;refine sq ?_;refine sq ?_
     refine Ga (fun _=>True) (by
      intro l u W hl hp hF hG hi K hK;have h:Kx w7 La k x (l 0) (l 4) (l 9) (l 10) (l 14) (l 15) (u 0) (u 4) (u 9) (u 10) (u 14) (u 15) W:=hF.o;rw[hl]at h;have h10:=(hi.o 10 bQ).1;simp[Region.binds,Cg]at hp;have Hh:=Aa (h.op9 h10);clear h h10 hi hG;go_simp;exact hK _ _ _ Ac Hh.o bu) ?_
     refine Ga (fun _=>True) (by
      intro l u W hl hp hF hG hi K hK;have h:Kx w7 La k x (l 0) (l 4) (l 9) (l 10) (l 14) (l 15) (u 0) (u 4) (u 9) (u 10) (u 14) (u 15) W:=hF.o;rw[hl]at h;simp[Region.binds,Cg]at hp;obtain⟨b,c,e4,ho⟩:=h.s4 bc rfl;obtain⟨b9,e9,_,hb9,hc9,_,_⟩:=h.s9 bc rfl;have hb:=ho.lt b rfl;simp only[Region.wanted,if_true];refine Jt W (.tmp 39) (.tmp 44) 63 rfl w7 9 aa 16 underlying63 Ej aJ b k c (Ah (La.take k)) ?_ (b9,0) 1 1 [x] ?_ ?_ bB ho aU aG h.bel.size ?_
      ·simp[hp,e4];rfl
      ·simp[hp,e9];rfl
      ·exact j9
      intro g' c' w' ho' hg' _;refine hK _ _ _ Ac ?_ rfl;exact h.op10 bc bc hb.1 dJ hg' _ rfl) ?_
     refine sqI 15 ?_;refine sq ?_;refine sq ?_
     refine Ga (fun _=>True) (by
      intro l u W hl hp hF hG hi K hK;have h:Kx w7 La k x (l 0) (l 4) (l 9) (l 10) (l 14) (l 15) (u 0) (u 4) (u 9) (u 10) (u 14) (u 15) W:=hF.o;rw[hl]at h;simp[Region.binds,Cg]at hp;obtain⟨b,c,e10,ho⟩:=h.s10 bc rfl;have hb:=ho.lt b rfl;simp only[Region.wanted,if_true];refine Jt W (.tmp 45) (.tmp 48) 63 rfl w7 9 aa 16 underlying63 Ej aJ b (k+1) c (Ah (La.take k++[x])) ?_ (if ca=k then some ⟨ga,0,none⟩else some ⟨ga,k,none⟩) (m - k) (ca - k) (Ah (La.drop k)) ?_ ?_ (Ja _) ho aU aG h.bel.size ?_
      ·simp[hp,e10];rfl
      ·exact gE
      ·exact j6
      intro g' c' w' ho' hg' _;refine hK _ _ _ Ac ?_ rfl;rw[show Ah (La.take k++[x])++Ah (La.drop k)=Ah (La.take k++x::La.drop k)by simp[Ah],show k+1+(m - k)=La.length+1 by omega]at ho';rw[show k+1+(m - k)=La.length+1 by omega];exact h.op14 bc hb.1 ho' hg' _ rfl) ?_
     refine Ga (fun _=>True) (by
      intro l u W hl hp hF hG hi K hK;have h:Kx w7 La k x (l 0) (l 4) (l 9) (l 10) (l 14) (l 15) (u 0) (u 4) (u 9) (u 10) (u 14) (u 15) W:=hF.o;simp[Region.binds,Cg]at hp;have h15:=hl;clear hG hi;have HF:=Aa h;clear h;go_simp;refine hK (u 14) _ _ Ac ?_ br;have h:=HF.o;exact⟨h.bel,h.d10,h.d14,fun _=>by simp[hp],h.s0,h.s4,h.s9,h.s10,h.s14,fun _=>rfl⟩) ?_
     intro l u w8 hl _ hR;have hR:Kx w7 La k x (l 0) (l 4) (l 9) (l 10) (l 14) (l 15) (u 0) (u 4) (u 9) (u 10) (u 14) (u 15) w8:=hR;obtain⟨g7,c7,e14,ho7⟩:=hR.s14 (hl 14 aJ);rw[hlLa]at e14 ho7;have e15:=(hR.s15 (hl 15 aJ)).trans e14;have hb7:=hR.bel;simp only[e15];clear hl hR e14 e15;have Hb7:=Aa (Hbj.o.trans (hb7.mono Hbj.o.size));have Ho7:=Aa ho7;have hl78:=hb7.size;have Hgbr:=Aa (Hrb.o.below Hb7.o);have hcy:=(Hb7.o.cell (p:=⟨b2,o2+m,none⟩) hb2).trans hc2;have hly:b2<w8.heap.size:=ac hb2 Hb7.o.size;clear hb7 ho7 hcx hlx Hgar;go_wp2_with fail;refine rgF (fun l u W=>Kx w8 Lb k y (l 0) (l 4) (l 9) (l 10) (l 14) (l 15) (u 0) (u 4) (u 9) (u 10) (u 14) (u 15) W) (El w8) (fun _ _ _ h=>G9 h.bel) Kx.start ?_
     refine Ga (fun _=>True) (by
      intro l u W hl hp hF hG hi K hK;have h:Kx w8 Lb k y (l 0) (l 4) (l 9) (l 10) (l 14) (l 15) (u 0) (u 4) (u 9) (u 10) (u 14) (u 15) W:=hF.o;rw[hl]at h;have h4:=(hi.o 4 bQ).1;clear hp;have Hh:=Aa (h.op0 h4);clear h h4 hi hG;go_simp;exact hK _ _ _ Ac Hh.o rfl) ?_
     refine sqI 15 ?_;refine sq ?_;refine sq ?_
     refine Ga (fun _=>True) (by
      intro l u W hl hp hF hG hi K hK;have h:Kx w8 Lb k y (l 0) (l 4) (l 9) (l 10) (l 14) (l 15) (u 0) (u 4) (u 9) (u 10) (u 14) (u 15) W:=hF.o;rw[hl]at h;simp[Region.binds,Cg]at hp;obtain⟨b,e0,ho⟩:=h.s0 bc rfl;have hb:=ho.lt b rfl;simp only[Region.wanted,if_true];refine Jt W (.tmp 50) (.tmp 53) 63 rfl w8 9 aa 16 underlying63 Ej aJ b 0 0 (Ah []) ?_ (gb,0) k cb (Ah (Lb.take k)) ?_ ?_ (Ja _) ho aU aG h.bel.size ?_
      ·simp[hp,e0];rfl
      ·exact gE
      ·exact kh
      intro g' c' w' ho' hg' hw';refine hK _ _ _ Ac ?_ rfl;simp only[am]at ho' ⊢;exact h.op4 e0 hb.1 ho' hg' hw' bc _ rfl) ?_
     refine sq ?_;refine sq ?_;refine sq ?_;refine sq ?_
     refine Ga (fun _=>True) (by
      intro l u W hl hp hF hG hi K hK;have h:Kx w8 Lb k y (l 0) (l 4) (l 9) (l 10) (l 14) (l 15) (u 0) (u 4) (u 9) (u 10) (u 14) (u 15) W:=hF.o;rw[hl]at h;have h10:=(hi.o 10 bQ).1;simp[Region.binds,Cg]at hp;have Hh:=Aa (h.op9 h10);clear h h10 hi hG;go_simp;exact hK _ _ _ Ac Hh.o bu) ?_
     refine Ga (fun _=>True) (by
      intro l u W hl hp hF hG hi K hK;have h:Kx w8 Lb k y (l 0) (l 4) (l 9) (l 10) (l 14) (l 15) (u 0) (u 4) (u 9) (u 10) (u 14) (u 15) W:=hF.o;rw[hl]at h;simp[Region.binds,Cg]at hp;obtain⟨b,c,e4,ho⟩:=h.s4 bc rfl;obtain⟨b9,e9,_,hb9,hc9,_,_⟩:=h.s9 bc rfl;have hb:=ho.lt b rfl;simp only[Region.wanted,if_true];refine Jt W (.tmp 54) (.tmp 59) 63 rfl w8 9 aa 16 underlying63 Ej aJ b k c (Ah (Lb.take k)) ?_ (b9,0) 1 1 [y] ?_ ?_ bB ho aU aG h.bel.size ?_
      ·simp[hp,e4];rfl
      ·simp[hp,e9];rfl
      ·exact j9
      intro g' c' w' ho' hg' _;refine hK _ _ _ Ac ?_ rfl;exact h.op10 bc bc hb.1 dK hg' _ rfl) ?_
     refine sqI 15 ?_;refine sq ?_;refine sq ?_
     refine Ga (fun _=>True) (by
      intro l u W hl hp hF hG hi K hK;have h:Kx w8 Lb k y (l 0) (l 4) (l 9) (l 10) (l 14) (l 15) (u 0) (u 4) (u 9) (u 10) (u 14) (u 15) W:=hF.o;rw[hl]at h;simp[Region.binds,Cg]at hp;obtain⟨b,c,e10,ho⟩:=h.s10 bc rfl;have hb:=ho.lt b rfl;simp only[Region.wanted,if_true];refine Jt W (.tmp 60) (.tmp 63) 63 rfl w8 9 aa 16 underlying63 Ej aJ b (k+1) c (Ah (Lb.take k++[y])) ?_ (if cb=k then some ⟨gb,0,none⟩else some ⟨gb,k,none⟩) (m - k) (cb - k) (Ah (Lb.drop k)) ?_ ?_ (Ja _) ho aU aG h.bel.size ?_
      ·simp[hp,e10];rfl
      ·exact gE
      ·exact j7
      intro g' c' w' ho' hg' _;refine hK _ _ _ Ac ?_ rfl;rw[show Ah (Lb.take k++[y])++Ah (Lb.drop k)=Ah (Lb.take k++y::Lb.drop k)by simp[Ah],show k+1+(m - k)=Lb.length+1 by omega]at ho';rw[show k+1+(m - k)=Lb.length+1 by omega];exact h.op14 bc hb.1 ho' hg' _ rfl) ?_
     refine Ga (fun _=>True) (by
      intro l u W hl hp hF hG hi K hK;have h:Kx w8 Lb k y (l 0) (l 4) (l 9) (l 10) (l 14) (l 15) (u 0) (u 4) (u 9) (u 10) (u 14) (u 15) W:=hF.o;simp[Region.binds,Cg]at hp;have h15:=hl;clear hG hi;have HF:=Aa h;clear h;go_simp;refine hK (u 14) _ _ Ac ?_ br;have h:=HF.o;exact⟨h.bel,h.d10,h.d14,fun _=>by simp[hp],h.s0,h.s4,h.s9,h.s10,h.s14,fun _=>rfl⟩) ?_
     intro l u w9 hl _ hR;have hR:Kx w8 Lb k y (l 0) (l 4) (l 9) (l 10) (l 14) (l 15) (u 0) (u 4) (u 9) (u 10) (u 14) (u 15) w9:=hR;obtain⟨g8,c8,e14,ho8⟩:=hR.s14 (hl 14 aJ);rw[hlLb]at e14 ho8;have e15:=(hR.s15 (hl 15 aJ)).trans e14;have hb8:=hR.bel;simp only[e15];clear hl hR e14 e15;have h77:=Ho7.o.lt g7 rfl;have h88:=ho8.lt g8 rfl;have Hn2:=Aa (show g7≠g8 by omega);have Hoa2:=Aa (show P1 w.heap.size w9 g7 (m+1) c7 ((Gg (·.1) ((names.zip texts).take (m+1))).map (·.1))by rw[Hxa.o];exact Xq (Ba Ho7.o hb8) cU);have Hob2:=Aa (show P1 w.heap.size w9 g8 (m+1) c8 ((Gg (·.1) ((names.zip texts).take (m+1))).map (·.2))by rw[Hxb.o];exact Xq ho8 cU);have Hb9:=Aa (Hbr.o.trans ((Hb7.o.trans (hb8.mono Hb7.o.size)).mono Hbr.o.size));clear hb8 ho8 h77 h88 hcy hly;go_wp2_with fail;go_roundw
     case rel=>exact⟨m+1,g7,c7,g8,c8,by go_num,rfl,rfl,by omega,Hn2.o,Hoa2.o,Hob2.o,Hb9.o⟩
     case measure=>simp[intOf];omega
    ·have hkm2:k=m:=aG;have k2:¬((k:Int)<(m:Int)):=aG;have Hkm2:=Aa hkm2;clear hkm2;go_wp2_with fail;refine rgB ?_;iterate 15 refine sq ?_
     refine Xi fun w7 HB=>?_;have Hbj:=Aa (Hbi.o.trans (HB.o.mono Hbi.o.size));clear HB;go_wp2_with fail;have hins:Gg (·.1) ((names.zip texts).take (m+1))=L.take k++(x,y)::L.drop k:=by
      rw[Hzp.o,Qaw,<-HL.o];exact Qb0 (·.1) (x,y) L k fH Hsm.o (fun h=>absurd h fH)
     have Hxa:=Aa (show (Gg (·.1) ((names.zip texts).take (m+1))).map (·.1)=La.take k++x::La.drop k by rw[hins,HLa.o];simp[List.map_take,List.map_drop]);have Hxb:=Aa (show (Gg (·.1) ((names.zip texts).take (m+1))).map (·.2)=Lb.take k++y::Lb.drop k by rw[hins,HLb.o];simp[List.map_take,List.map_drop]);clear hins;have Hgar:=Aa (Hra.o.below Hbj.o);have hcx:=(Hbj.o.cell (p:=⟨b1,o1+m,none⟩) hb1).trans hc1;have hlx:b1<w7.heap.size:=ac hb1 Hbj.o.size;have hkca:k<=ca:=aG;have hkcb:k<=cb:=aG;have hkma:k<=m:=hk;refine rgF (fun l u W=>Kx w7 La k x (l 0) (l 4) (l 9) (l 10) (l 14) (l 15) (u 0) (u 4) (u 9) (u 10) (u 14) (u 15) W) (El w7) (fun _ _ _ h=>G9 h.bel) Kx.start ?_
     refine Ga (fun _=>True) (by
      intro l u W hl hp hF hG hi K hK;have h:Kx w7 La k x (l 0) (l 4) (l 9) (l 10) (l 14) (l 15) (u 0) (u 4) (u 9) (u 10) (u 14) (u 15) W:=hF.o;rw[hl]at h;have h4:=(hi.o 4 bQ).1;clear hp;have Hh:=Aa (h.op0 h4);clear h h4 hi hG;go_simp;exact hK _ _ _ Ac Hh.o rfl) ?_
     refine sqI 15 ?_;refine sq ?_;refine sq ?_
     refine Ga (fun _=>True) (by
      intro l u W hl hp hF hG hi K hK;have h:Kx w7 La k x (l 0) (l 4) (l 9) (l 10) (l 14) (l 15) (u 0) (u 4) (u 9) (u 10) (u 14) (u 15) W:=hF.o;rw[hl]at h;simp[Region.binds,Cg]at hp;obtain⟨b,e0,ho⟩:=h.s0 bc rfl;have hb:=ho.lt b rfl;simp only[Region.wanted,if_true];refine Jt W (.tmp 35) (.tmp 38) 63 rfl w7 9 aa 16 underlying63 Ej aJ b 0 0 (Ah []) ?_ (ga,0) k ca (Ah (La.take k)) ?_ ?_ (Ja _) ho aU aG h.bel.size ?_
      ·simp[hp,e0];rfl
      ·exact gE
      ·exact kg
      intro g' c' w' ho' hg' hw';refine hK _ _ _ Ac ?_ rfl;simp only[am]at ho' ⊢;exact h.op4 e0 hb.1 ho' hg' hw' bc _ rfl) ?_
     refine sq ?_;refine sq ?_;refine sq ?_;refine sq ?_
     refine Ga (fun _=>True) (by
      intro l u W hl hp hF hG hi K hK;have h:Kx w7 La k x (l 0) (l 4) (l 9) (l 10) (l 14) (l 15) (u 0) (u 4) (u 9) (u 10) (u 14) (u 15) W:=hF.o;rw[hl]at h;have h10:=(hi.o 10 bQ).1;simp[Region.binds,Cg]at hp;have Hh:=Aa (h.op9 h10);clear h h10 hi hG;go_simp;exact hK _ _ _ Ac Hh.o bu) ?_
     refine Ga (fun _=>True) (by
      intro l u W hl hp hF hG hi K hK;have h:Kx w7 La k x (l 0) (l 4) (l 9) (l 10) (l 14) (l 15) (u 0) (u 4) (u 9) (u 10) (u 14) (u 15) W:=hF.o;rw[hl]at h;simp[Region.binds,Cg]at hp;obtain⟨b,c,e4,ho⟩:=h.s4 bc rfl;obtain⟨b9,e9,_,hb9,hc9,_,_⟩:=h.s9 bc rfl;have hb:=ho.lt b rfl;simp only[Region.wanted,if_true];refine Jt W (.tmp 39) (.tmp 44) 63 rfl w7 9 aa 16 underlying63 Ej aJ b k c (Ah (La.take k)) ?_ (b9,0) 1 1 [x] ?_ ?_ bB ho aU aG h.bel.size ?_
      ·simp[hp,e4];rfl
      ·simp[hp,e9];rfl
      ·exact j9
      intro g' c' w' ho' hg' _;refine hK _ _ _ Ac ?_ rfl;exact h.op10 bc bc hb.1 dJ hg' _ rfl) ?_
     refine sqI 15 ?_;refine sq ?_;refine sq ?_
     refine Ga (fun _=>True) (by
      intro l u W hl hp hF hG hi K hK;have h:Kx w7 La k x (l 0) (l 4) (l 9) (l 10) (l 14) (l 15) (u 0) (u 4) (u 9) (u 10) (u 14) (u 15) W:=hF.o;rw[hl]at h;simp[Region.binds,Cg]at hp;obtain⟨b,c,e10,ho⟩:=h.s10 bc rfl;have hb:=ho.lt b rfl;simp only[Region.wanted,if_true];refine Jt W (.tmp 45) (.tmp 48) 63 rfl w7 9 aa 16 underlying63 Ej aJ b (k+1) c (Ah (La.take k++[x])) ?_ (if ca=k then some ⟨ga,0,none⟩else some ⟨ga,k,none⟩) (m - k) (ca - k) (Ah (La.drop k)) ?_ ?_ (Ja _) ho aU aG h.bel.size ?_
      ·simp[hp,e10];rfl
      ·exact gE
      ·exact j6
      intro g' c' w' ho' hg' _;refine hK _ _ _ Ac ?_ rfl;rw[show Ah (La.take k++[x])++Ah (La.drop k)=Ah (La.take k++x::La.drop k)by simp[Ah],show k+1+(m - k)=La.length+1 by omega]at ho';rw[show k+1+(m - k)=La.length+1 by omega];exact h.op14 bc hb.1 ho' hg' _ rfl) ?_
     refine Ga (fun _=>True) (by
      intro l u W hl hp hF hG hi K hK;have h:Kx w7 La k x (l 0) (l 4) (l 9) (l 10) (l 14) (l 15) (u 0) (u 4) (u 9) (u 10) (u 14) (u 15) W:=hF.o;simp[Region.binds,Cg]at hp;have h15:=hl;clear hG hi;have HF:=Aa h;clear h;go_simp;refine hK (u 14) _ _ Ac ?_ br;have h:=HF.o;exact⟨h.bel,h.d10,h.d14,fun _=>by simp[hp],h.s0,h.s4,h.s9,h.s10,h.s14,fun _=>rfl⟩) ?_
     intro l u w8 hl _ hR;have hR:Kx w7 La k x (l 0) (l 4) (l 9) (l 10) (l 14) (l 15) (u 0) (u 4) (u 9) (u 10) (u 14) (u 15) w8:=hR;obtain⟨g7,c7,e14,ho7⟩:=hR.s14 (hl 14 aJ);rw[hlLa]at e14 ho7;have e15:=(hR.s15 (hl 15 aJ)).trans e14;have hb7:=hR.bel;simp only[e15];clear hl hR e14 e15;have Hb7:=Aa (Hbj.o.trans (hb7.mono Hbj.o.size));have Ho7:=Aa ho7;have hl78:=hb7.size;have Hgbr:=Aa (Hrb.o.below Hb7.o);have hcy:=(Hb7.o.cell (p:=⟨b2,o2+m,none⟩) hb2).trans hc2;have hly:b2<w8.heap.size:=ac hb2 Hb7.o.size;clear hb7 ho7 hcx hlx Hgar;go_wp2_with fail;refine rgF (fun l u W=>Kx w8 Lb k y (l 0) (l 4) (l 9) (l 10) (l 14) (l 15) (u 0) (u 4) (u 9) (u 10) (u 14) (u 15) W) (El w8) (fun _ _ _ h=>G9 h.bel) Kx.start ?_
     refine Ga (fun _=>True) (by
      intro l u W hl hp hF hG hi K hK;have h:Kx w8 Lb k y (l 0) (l 4) (l 9) (l 10) (l 14) (l 15) (u 0) (u 4) (u 9) (u 10) (u 14) (u 15) W:=hF.o;rw[hl]at h;have h4:=(hi.o 4 bQ).1;clear hp;have Hh:=Aa (h.op0 h4);clear h h4 hi hG;go_simp;exact hK _ _ _ Ac Hh.o rfl) ?_
     refine sqI 15 ?_;refine sq ?_;refine sq ?_
     refine Ga (fun _=>True) (by
      intro l u W hl hp hF hG hi K hK;have h:Kx w8 Lb k y (l 0) (l 4) (l 9) (l 10) (l 14) (l 15) (u 0) (u 4) (u 9) (u 10) (u 14) (u 15) W:=hF.o;rw[hl]at h;simp[Region.binds,Cg]at hp;obtain⟨b,e0,ho⟩:=h.s0 bc rfl;have hb:=ho.lt b rfl;simp only[Region.wanted,if_true];refine Jt W (.tmp 50) (.tmp 53) 63 rfl w8 9 aa 16 underlying63 Ej aJ b 0 0 (Ah []) ?_ (gb,0) k cb (Ah (Lb.take k)) ?_ ?_ (Ja _) ho aU aG h.bel.size ?_
      ·simp[hp,e0];rfl
      ·exact gE
      ·exact kh
      intro g' c' w' ho' hg' hw';refine hK _ _ _ Ac ?_ rfl;simp only[am]at ho' ⊢;exact h.op4 e0 hb.1 ho' hg' hw' bc _ rfl) ?_
     refine sq ?_;refine sq ?_;refine sq ?_;refine sq ?_
     refine Ga (fun _=>True) (by
      intro l u W hl hp hF hG hi K hK;have h:Kx w8 Lb k y (l 0) (l 4) (l 9) (l 10) (l 14) (l 15) (u 0) (u 4) (u 9) (u 10) (u 14) (u 15) W:=hF.o;rw[hl]at h;have h10:=(hi.o 10 bQ).1;simp[Region.binds,Cg]at hp;have Hh:=Aa (h.op9 h10);clear h h10 hi hG;go_simp;exact hK _ _ _ Ac Hh.o bu) ?_
     refine Ga (fun _=>True) (by
      intro l u W hl hp hF hG hi K hK;have h:Kx w8 Lb k y (l 0) (l 4) (l 9) (l 10) (l 14) (l 15) (u 0) (u 4) (u 9) (u 10) (u 14) (u 15) W:=hF.o;rw[hl]at h;simp[Region.binds,Cg]at hp;obtain⟨b,c,e4,ho⟩:=h.s4 bc rfl;obtain⟨b9,e9,_,hb9,hc9,_,_⟩:=h.s9 bc rfl;have hb:=ho.lt b rfl;simp only[Region.wanted,if_true];refine Jt W (.tmp 54) (.tmp 59) 63 rfl w8 9 aa 16 underlying63 Ej aJ b k c (Ah (Lb.take k)) ?_ (b9,0) 1 1 [y] ?_ ?_ bB ho aU aG h.bel.size ?_
      ·simp[hp,e4];rfl
      ·simp[hp,e9];rfl
      ·exact j9
      intro g' c' w' ho' hg' _;refine hK _ _ _ Ac ?_ rfl;exact h.op10 bc bc hb.1 dK hg' _ rfl) ?_
     refine sqI 15 ?_;refine sq ?_;refine sq ?_
     refine Ga (fun _=>True) (by
      intro l u W hl hp hF hG hi K hK;have h:Kx w8 Lb k y (l 0) (l 4) (l 9) (l 10) (l 14) (l 15) (u 0) (u 4) (u 9) (u 10) (u 14) (u 15) W:=hF.o;rw[hl]at h;simp[Region.binds,Cg]at hp;obtain⟨b,c,e10,ho⟩:=h.s10 bc rfl;have hb:=ho.lt b rfl;simp only[Region.wanted,if_true];refine Jt W (.tmp 60) (.tmp 63) 63 rfl w8 9 aa 16 underlying63 Ej aJ b (k+1) c (Ah (Lb.take k++[y])) ?_ (if cb=k then some ⟨gb,0,none⟩else some ⟨gb,k,none⟩) (m - k) (cb - k) (Ah (Lb.drop k)) ?_ ?_ (Ja _) ho aU aG h.bel.size ?_
      ·simp[hp,e10];rfl
      ·exact gE
      ·exact j7
      intro g' c' w' ho' hg' _;refine hK _ _ _ Ac ?_ rfl;rw[show Ah (Lb.take k++[y])++Ah (Lb.drop k)=Ah (Lb.take k++y::Lb.drop k)by simp[Ah],show k+1+(m - k)=Lb.length+1 by omega]at ho';rw[show k+1+(m - k)=Lb.length+1 by omega];exact h.op14 bc hb.1 ho' hg' _ rfl) ?_
     refine Ga (fun _=>True) (by
      intro l u W hl hp hF hG hi K hK;have h:Kx w8 Lb k y (l 0) (l 4) (l 9) (l 10) (l 14) (l 15) (u 0) (u 4) (u 9) (u 10) (u 14) (u 15) W:=hF.o;simp[Region.binds,Cg]at hp;have h15:=hl;clear hG hi;have HF:=Aa h;clear h;go_simp;refine hK (u 14) _ _ Ac ?_ br;have h:=HF.o;exact⟨h.bel,h.d10,h.d14,fun _=>by simp[hp],h.s0,h.s4,h.s9,h.s10,h.s14,fun _=>rfl⟩) ?_
     intro l u w9 hl _ hR;have hR:Kx w8 Lb k y (l 0) (l 4) (l 9) (l 10) (l 14) (l 15) (u 0) (u 4) (u 9) (u 10) (u 14) (u 15) w9:=hR;obtain⟨g8,c8,e14,ho8⟩:=hR.s14 (hl 14 aJ);rw[hlLb]at e14 ho8;have e15:=(hR.s15 (hl 15 aJ)).trans e14;have hb8:=hR.bel;simp only[e15];clear hl hR e14 e15;have h77:=Ho7.o.lt g7 rfl;have h88:=ho8.lt g8 rfl;have Hn2:=Aa (show g7≠g8 by omega);have Hoa2:=Aa (show P1 w.heap.size w9 g7 (m+1) c7 ((Gg (·.1) ((names.zip texts).take (m+1))).map (·.1))by rw[Hxa.o];exact Xq (Ba Ho7.o hb8) cU);have Hob2:=Aa (show P1 w.heap.size w9 g8 (m+1) c8 ((Gg (·.1) ((names.zip texts).take (m+1))).map (·.2))by rw[Hxb.o];exact Xq ho8 cU);have Hb9:=Aa (Hbr.o.trans ((Hb7.o.trans (hb8.mono Hb7.o.size)).mono Hbr.o.size));clear hb8 ho8 h77 h88 hcy hly;go_wp2_with fail;go_roundw
     case rel=>exact⟨m+1,g7,c7,g8,c8,by go_num,rfl,rfl,by omega,Hn2.o,Hoa2.o,Hob2.o,Hb9.o⟩
     case measure=>simp[intOf];omega
  ·obtain rfl:m=n:=aG;have ht:(names.zip texts).take m=names.zip texts:=ar aO;rw[ht]at Hoa Hob;go_wp2_with fail;go_ret2;exact⟨ga,ca,gb,cb,rfl,Hoa.o,Hob.o,Hne.o,Hbr.o⟩
theorem Zi(c:UInt8)(p:List UInt8):∀(l:List (List UInt8)),Am c (l++[p])=if l=[]then p else Am c l++c::p
 |[]=>rfl
 |[q]=>rfl
 |q::r::l=>by
  have ih:=Zi c p (r::l);rw[if_neg aL]at ih ⊢;rw[au,B0 c q aL,ih,B0 c q aL];simp
theorem Qaz(c:UInt8)(m:Nat):∀(l:List (List UInt8)),(∀p∈l,p.length<=m)->(Am c l).length<=l.length*(m+1)
 |[],_=>by simp[Am]
 |[q],h=>by have:=h q aL;simp[Am];omega
 |q::r::l,h=>by
  have h1:=h q aL;have h2:=Qaz c m (r::l) (fun p hp=>h p bc);rw[B0 c q aL,ah,List.length_cons,List.length_cons,Nat.add_mul];omega
theorem Qbl(A:Option Addr)(c:Nat)(ps:List (List UInt8))(w:World)(hr:Bh w A ps.length (Ah ps))(hl:ps.length<=100)(hp:∀p∈ps,p.length<=10000):
  Calls prog 32 #[.slice A ps.length c] w fun e w'=>e=.returned (.string ⟨(Am 44 ps).toArray⟩)/\w=w':=by
 have Hr:=Aa hr;have Hp:=Aa hp;clear hr hp;go_enter func32,ntmps32;go_wp2_with fail;go_loop [4,3] (fun i s=>∃k:Nat,i=.int .i64 k/\k<=ps.length/\s=.string ⟨(Am 44 (ps.take k)).toArray⟩) (fun i _=>ps.length - (intOf i).toNat)
 case atStart=>exact⟨0,rfl,ag _,rfl⟩
 case round=>
  obtain⟨k,rfl,hk,rfl⟩:=hrel;have k1:(0:Int)<=(k:Int):=aG;have hjl:=Qaz 44 10000 (ps.take k) (fun p hp=>Hp.o p (List.mem_of_mem_take hp));rw[List.length_take,Nat.min_eq_left hk]at hjl;by_cases hlt:k<ps.length
  ·have k2:(k:Int)<(ps.length:Int):=aG;obtain⟨b,off,rfl,hb,hc⟩:=Hr.o.at_ hlt;have c0:w.cell? ⟨b,off+k,none⟩=some (.string ⟨ps[k].toArray⟩):=by rw[hc];simp[Ah]
   have Hsn:=@Aa (Am 44 (ps.take (k+1))=if ps.take k=[]then ps[k]else Am 44 (ps.take k)++44::ps[k]) (by rw[Bx ps k hlt];exact Zi 44 ps[k] (ps.take k));have hpl:=Hp.o _ (ae hlt);have He:Hid (ps.take k=[]↔k=0):=by
    constructor
    ·intro h;have:=congrArg List.length h;rw[List.length_take,Nat.min_eq_left hk]at this;simpa using this
    rintro rfl;rfl
   generalize ps[k]=p at c0 Hsn hpl;clear hc;by_cases h0:k=0
   ·have h0i:¬(0:Int)<(k:Int):=aG;have Hs2:=Aa (Hsn.o.trans (if_pos (He.o.2 h0)));have hj0:Am 44 (ps.take k)=[]:=by rw[He.o.2 h0];rfl
    rw[hj0];clear h0 hjl hj0;go_wp2_with fail;go_round
    case rel=>exact⟨k+1,by go_num,by omega,by rw[Hs2.o]⟩
    case measure=>simp[intOf];omega
   have h0i:(0:Int)<(k:Int):=aG;have Hs2:=Aa (Hsn.o.trans (if_neg (fun h=>h0 (He.o.1 h))));generalize Am 44 (ps.take k)=js at *;clear h0;go_wp2_with fail;go_round
   case rel=>exact⟨k+1,by go_num,by omega,by rw[Hs2.o]⟩
   case measure=>simp[intOf];omega
  ·obtain rfl:k=ps.length:=aG;have Hfin:Hid (ps.take ps.length=ps):=List.take_length;go_wp2_with fail;go_ret;exact⟨by first|rfl|rw[Hfin.o],rfl⟩
def Mv(s d x:List UInt8)(w:World)(e:Ending)(w':World):Prop:=Below w w w'/\match Cx s d with
 |none=>∃v q,e=.returned (.tuple #[v,.pointer q,.bool false])
 |some y=>match Kz y.1 y.2 x with
  |none=>∃v q,e=.returned (.tuple #[v,.pointer q,.bool false])
  |some v=>∃xv xs b,e=.returned (.tuple #[xv,.pointer (some ⟨b,0,none⟩),.bool true])/\Ag xs=y.1/\G8 w' xv xs/\Gx (fun c=>w.heap.size<=c) w' b (Cj y.1 y.2 v)
end
end Go.Proofs.YtkigmebejmmikaaGreatDoor
