/- Texts joined. Conditions: as each theorem names them. -/
import Derived.Sort.Walk0
import Derived.Test.YtkigmebejmmikaaGreatDoorQ01
import Derived.Test.YtkigmebejmmikaaGreatDoorQ02
import Derived.Test.YtkigmebejmmikaaGreatDoorQ03
import Derived.Test.YtkigmebejmmikaaGreatDoorQ06
import Derived.Test.YtkigmebejmmikaaGreatDoorQ07
import Derived.Test.YtkigmebejmmikaaGreatDoorQ09
set_option maxRecDepth 100000
set_option maxHeartbeats 32000000
set_option linter.unusedVariables false
set_option linter.unusedSimpArgs false
namespace Go.Proofs.YtkigmebejmmikaaGreatDoor
open Go.RowKit Go.Proofs.Tryz
section
attribute [local go_sem] Qja Qit Qib Qgw ByteArray.mk_append_mk
theorem Bh.sub{w:World}{g o n:Nat}{xs:List Value}(h:Bh w (some ⟨g,o,none⟩) n xs)(a k:Nat)(hk:a+k<=n):Bh w (some ⟨g,o+a,none⟩) k ((xs.drop a).take k):=by
 refine⟨by have:=h.1;simp;omega,by have:=h.2.1;omega,fun hn=>?_⟩
 obtain⟨b,off,e,hlt,hc⟩:=h.2.2 (by omega)
 injection e with e;injection e with e1 e2;subst e1 e2
 refine⟨_,_,rfl,hlt,fun j u hj=>?_⟩
 have:=hc (a+j) u (by
  rw[List.getElem?_take]at hj
  split at hj
  ·rwa [List.getElem?_drop]at hj
  cases hj)
 rwa [Nat.add_assoc]
abbrev M1(B:Nat)(W:World)(g n c:Nat)(xs:List (List UInt8)):Prop:=W.ownsRow B 9 1 (.slice (some ⟨g,0,none⟩) n c) n (Ae xs)
structure Jf(w0:World)(xs:List (List UInt8))(k:Nat)(x:List UInt8)(l0 l4 l9 l10 l14 l15:Bool)(u0 u4 u9 u10 u14 u15:Value)(W:World):Prop where
 bel:Below w0.heap.size w0 W
 d10:l10=true->l4=true/\l9=true
 d14:l14=true->l10=true
 d15:l15=true->l14=true
 s0:l0=true->l4=false->∃b,u0=.slice (some ⟨b,0,none⟩) 0 0/\M1 w0.heap.size W b 0 0 []
 s4:l4=true->l10=false->∃b c,u4=.slice (some ⟨b,0,none⟩) k c/\M1 w0.heap.size W b k c (xs.take k)
 s9:l9=true->l10=false->∃b,u9=.slice (some ⟨b,0,none⟩) 1 1/\w0.heap.size<=b/\b<W.heap.size/\W.cell? ⟨b,0,none⟩=some (.string ⟨x.toArray⟩)/\(l0=true->l4=false->u0.ownBlock≠some b)/\(l4=true->u4.ownBlock≠some b)
 s10:l10=true->l14=false->∃b c,u10=.slice (some ⟨b,0,none⟩) (k+1) c/\M1 w0.heap.size W b (k+1) c (xs.take k++[x])
 s14:l14=true->∃b c,u14=.slice (some ⟨b,0,none⟩) (xs.length+1) c/\M1 w0.heap.size W b (xs.length+1) c (xs.take k++x::xs.drop k)
 s15:l15=true->u15=u14
section
variable {w0 W W':World} {xs:List (List UInt8)} {k:Nat} {x:List UInt8} {l0 l4 l9 l10 l14 l15:Bool} {u0 u4 u9 u10 u14 u15:Value}
theorem Jf.start:Jf w0 xs k x false false false false false false u0 u4 u9 u10 u14 u15 w0.drew:=
 ⟨(As _ _).drew,by simp,by simp,by simp,by simp,by simp,by simp,by simp,by simp,by simp⟩
theorem Jf.op0(h:Jf w0 xs k x false l4 l9 l10 l14 l15 u0 u4 u9 u10 u14 u15 W)(h4:l4=false):Jf w0 xs k x true l4 l9 l10 l14 l15 (.slice (some ⟨W.heap.size,0,none⟩) 0 0) u4 u9 u10 u14 u15 (W.alloc (.cells #[] 9)):=by
 subst h4
 have hb:=(As W.heap.size W).alloc (Ap _) (.cells #[] 9)
 refine⟨h.bel.alloc h.bel.size _,h.d10,h.d14,h.d15,fun _ _=>⟨_,rfl,Mc W _ _ h.bel.size⟩,by simp,fun h9 h10=>?_,fun h1 h2=>?_,fun h1=>?_,h.s15⟩
 ·obtain⟨b,e,e1,e2,e3,_,_⟩:=h.s9 h9 h10
  exact⟨b,e,e1,Nat.lt_of_lt_of_le e2 hb.size,(hb.cell (p:=⟨b,0,none⟩) e2).trans e3,fun _ _ e=>absurd (show W.heap.size=b by injection e) (by omega),by simp⟩
 ·obtain⟨b,c,e,ho⟩:=h.s10 h1 h2
  exact⟨b,c,e,Bf ho hb⟩
 obtain⟨b,c,e,ho⟩:=h.s14 h1
 exact⟨b,c,e,Bf ho hb⟩
theorem Jf.op4(h:Jf w0 xs k x l0 false l9 l10 l14 l15 u0 u4 u9 u10 u14 u15 W){b g c:Nat}(e0:u0=.slice (some ⟨b,0,none⟩) 0 0)(hl:w0.heap.size<=b)(ho:M1 w0.heap.size W' g k c (xs.take k))(hg:W.grownBy W' (some b))(hw:g=b\/W.heap.size<=g)(h0:l0=true)(v4:Value)(e4:v4=.slice (some ⟨g,0,none⟩) k c):
  Jf w0 xs k x l0 true l9 l10 l14 l15 u0 v4 u9 u10 u14 u15 W':=by
 subst e4
 have h10:l10=false:=by cases hq:l10 with|false=>rfl|true=>exact absurd (h.d10 hq).1 (by decide)
 have h14:l14=false:=by cases hq:l14 with|false=>rfl|true=>exact absurd (h10.symm.trans (h.d14 hq)) (by decide)
 subst h10 h14
 refine⟨h.bel.grown hg h.bel.size (fun q hq=>by injection hq with hq;omega),by simp,by simp,h.d15,by simp,fun _ _=>⟨g,c,rfl,ho⟩,fun h9 _=>?_,by simp,by simp,h.s15⟩
 obtain⟨b9,e,e1,e2,e3,e4,_⟩:=h.s9 h9 rfl
 have hne:=e4 h0 rfl
 rw[e0]at hne
 refine⟨b9,e,e1,Nat.lt_of_lt_of_le e2 hg.size,hg.cell e3 (fun e=>hne e.symm),by simp,fun _ e=>?_⟩
 have e:g=b9:=by injection e
 rcases hw with hw|hw
 ·exact hne (by rw[<-hw,e];rfl)
 omega
theorem Jf.op9(h:Jf w0 xs k x l0 l4 false l10 l14 l15 u0 u4 u9 u10 u14 u15 W)(h10:l10=false):Jf w0 xs k x l0 l4 true l10 l14 l15 u0 u4 (.slice (some ⟨W.heap.size,0,none⟩) 1 1) u10 u14 u15 (W.alloc (.cells #[.string ⟨x.toArray⟩] 9)):=by
 subst h10
 have h14:l14=false:=by cases hq:l14 with|false=>rfl|true=>exact absurd (h.d14 hq) (by decide)
 subst h14
 have hb:=(As W.heap.size W).alloc (Ap _) (.cells #[.string ⟨x.toArray⟩] 9)
 refine⟨h.bel.alloc h.bel.size _,by simp,by simp,h.d15,fun h0 h4=>?_,fun h4 h5=>?_,fun _ _=>⟨_,rfl,h.bel.size,by simp,by simp,fun h0 h4 e=>?_,fun h4 e=>?_⟩,by simp,by simp,h.s15⟩
 ·obtain⟨b,e,ho⟩:=h.s0 h0 h4
  exact⟨b,e,Bf ho hb⟩
 ·obtain⟨b,c,e,ho⟩:=h.s4 h4 h5
  exact⟨b,c,e,Bf ho hb⟩
 ·obtain⟨b,e',ho⟩:=h.s0 h0 h4
  rw[e']at e
  have:=(ho.lt _ e).2
  omega
 obtain⟨b,c,e',ho⟩:=h.s4 h4 rfl
 rw[e']at e
 have:=(ho.lt _ e).2
 omega
theorem Jf.op10(h:Jf w0 xs k x l0 l4 l9 false l14 l15 u0 u4 u9 u10 u14 u15 W)(h4:l4=true)(h9:l9=true){b g c:Nat}(hl:w0.heap.size<=b)(ho:M1 w0.heap.size W' g (k+1) c (xs.take k++[x]))(hg:W.grownBy W' (some b))(v10:Value)(e10:v10=.slice (some ⟨g,0,none⟩) (k+1) c):
  Jf w0 xs k x l0 l4 l9 true l14 l15 u0 u4 u9 v10 u14 u15 W':=by
 have h14:l14=false:=by cases hq:l14 with|false=>rfl|true=>exact absurd (h.d14 hq) (by decide)
 subst e10 h4 h9 h14
 exact⟨h.bel.grown hg h.bel.size (fun q hq=>by injection hq with hq;omega),by simp,by simp,h.d15,by simp,by simp,by simp,fun _ _=>⟨g,c,rfl,ho⟩,by simp,h.s15⟩
theorem Jf.op14(h:Jf w0 xs k x l0 l4 l9 l10 false l15 u0 u4 u9 u10 u14 u15 W)(h10:l10=true){b g c:Nat}(hl:w0.heap.size<=b)(ho:M1 w0.heap.size W' g (xs.length+1) c (xs.take k++x::xs.drop k))(hg:W.grownBy W' (some b))(v14:Value)(e14:v14=.slice (some ⟨g,0,none⟩) (xs.length+1) c):
  Jf w0 xs k x l0 l4 l9 l10 true l15 u0 u4 u9 u10 v14 u15 W':=by
 have h15:l15=false:=by cases hq:l15 with|false=>rfl|true=>exact absurd (h.d15 hq) (by decide)
 subst e14 h10 h15
 have:=(h.d10 rfl).1
 subst this
 exact⟨h.bel.grown hg h.bel.size (fun q hq=>by injection hq with hq;omega),fun _=>⟨rfl,(h.d10 rfl).2⟩,by simp,by simp,by simp,by simp,by simp,by simp,fun _=>⟨g,c,rfl,ho⟩,by simp⟩
end
def Qh0(n:Nat)(xs ys:List (List UInt8))(w:World)(e:Ending)(w':World):Prop:=
 ∃ga ca gb cb,e=.returned (.tuple #[.slice (some ⟨ga,0,none⟩) n ca,.slice (some ⟨gb,0,none⟩) n cb])/\M1 w.heap.size w' ga n ca xs/\M1 w.heap.size w' gb n cb ys/\ga≠gb/\Below w.heap.size w w'
theorem Vd(names texts:List (List UInt8))(m:Nat)(h1:m<names.length)(h2:m<texts.length):(names.zip texts).take (m+1)=(names.zip texts).take m++[(names[m],texts[m])]:=by
 rw[Bn _ m (by simp;omega)]
 simp
theorem Qdh(A B:Option Addr)(n c d:Nat)(names texts:List (List UInt8))(w:World)(hr1:Bh w A n (Ae names))(hr2:Bh w B n (Ae texts))(hn:n<=1000):
  Calls prog 69 #[.slice A n c,.slice B n d] w (Qh0 n ((Ex (·.1) (names.zip texts)).map (·.1)) ((Ex (·.1) (names.zip texts)).map (·.2)) w):=by
 have hn1:names.length=n:=by have:=hr1.1;simpa [Ae]using this
 have hn2:texts.length=n:=by have:=hr2.1;simpa [Ae]using this
 go_enter func69,ntmps69
 go_wp2_with fail
 generalize hw1:World.alloc (World.alloc w _) _=w1
 have hb1:Below w.heap.size w w1:=by rw[<-hw1];exact((As _ _).alloc (Ap _) _).alloc (by simp) _
 have ho1:M1 w.heap.size w1 w.heap.size 0 0 []:=by rw[<-hw1];exact Bf (Mc w _ _ (Ap _)) ((As _ _).alloc (Ap _) _)
 have ho2:M1 w.heap.size w1 (w.heap.size+1) 0 0 []:=by rw[<-hw1];have:=Mc (w.alloc (.cells #[] 9)) 9 w.heap.size (by simp);show World.ownsRow _ _ _ _ _ _ _;simpa [Ae]using this
 have Hb1:=Aa hb1
 have Ho1:=Aa ho1
 have Ho2:=Aa ho2
 have Hr1:=Aa hr1
 have Hr2:=Aa hr2
 clear hw1 hb1 ho1 ho2 hr1 hr2
 go_loopw [8,6,7,9] (fun i a b x wr=>∃(m ga ca gb cb:Nat),i=.int .i64 m/\a=.slice (some ⟨ga,0,none⟩) m ca/\b=.slice (some ⟨gb,0,none⟩) m cb/\m<=n/\Hid (ga≠gb)/\Hid (M1 w.heap.size wr ga m ca ((Ex (·.1) ((names.zip texts).take m)).map (·.1)))/\Hid (M1 w.heap.size wr gb m cb ((Ex (·.1) ((names.zip texts).take m)).map (·.2)))/\Hid (Below w.heap.size w wr)) (fun i _ _ _ _=>n - (intOf i).toNat)
 case atStart=>exact⟨0,w.heap.size,0,w.heap.size+1,0,rfl,rfl,rfl,Nat.zero_le _,by show _≠_;omega,Ho1.o,Ho2.o,Hb1.o⟩
 case round=>
  obtain⟨m,ga,ca,gb,cb,rfl,rfl,rfl,hm,Hne,Hoa,Hob,Hbr⟩:=hrel
  have m1:(0:Int)<=(m:Int):=by omega
  obtain⟨wo,rfl⟩:∃wo,wo=wr:=⟨_,rfl⟩
  by_cases hlt:m<n
  ·have m2:(m:Int)<(n:Int):=by omega
   have hlL:(Ex (·.1) ((names.zip texts).take m)).length=m:=by rw[(Gr _ _).length_eq];simp;omega
   obtain⟨_,_,ea,hra⟩:=Bh.own Hoa.o
   injection ea with ea1 ea2 ea3
   subst ea1 ea3
   obtain⟨_,_,eb,hrb⟩:=Bh.own Hob.o
   injection eb with eb1 eb2 eb3
   subst eb1 eb3
   have hla:=Hoa.o.lt ga rfl
   have hlb:=Hob.o.lt gb rfl
   have hca:m<=ca:=Vx Hoa.o
   have hcb:m<=cb:=Vx Hob.o
   obtain⟨b1,o1,rfl,hb1,hc1⟩:=(Hr1.o.below Hbr.o).at_ hlt
   obtain⟨b2,o2,rfl,hb2,hc2⟩:=(Hr2.o.below Hbr.o).at_ hlt
   have hm1:m<names.length:=by omega
   have hm2:m<texts.length:=by omega
   replace hc1:wo.cell? ⟨b1,o1+m,none⟩=some (.string ⟨names[m].toArray⟩):=by simpa [Ae]using hc1
   replace hc2:wo.cell? ⟨b2,o2+m,none⟩=some (.string ⟨texts[m].toArray⟩):=by simpa [Ae]using hc2
   have Hzp:=Aa (Vd names texts m hm1 hm2)
   generalize names[m]=x at *
   generalize texts[m]=y at *
   obtain⟨L,hL⟩:∃L,L=Ex (·.1) ((names.zip texts).take m):=⟨_,rfl⟩
   rw[<-hL]at hlL Hoa Hob
   obtain⟨La,hLa⟩:∃La,La=L.map (·.1):=⟨_,rfl⟩
   obtain⟨Lb,hLb⟩:∃Lb,Lb=L.map (·.2):=⟨_,rfl⟩
   rw[<-hL,<-hLa]at hra
   rw[<-hL,<-hLb]at hrb
   have hlLa:La.length=m:=by rw[hLa];simpa using hlL
   have hlLb:Lb.length=m:=by rw[hLb];simpa using hlL
   have HL:=Aa hL
   have HLa:=Aa hLa
   have HLb:=Aa hLb
   have HlL:=Aa hlL
   have Hra:=Aa hra
   have Hrb:=Aa hrb
   clear hL hLa hLb hlL hra hrb
   go_wp2_with fail
   go_loopw [9] (fun q wi=>∃k:Nat,q=.int .i64 k/\k<=m/\Hid (∀z∈L.take k,z.1<x)/\Hid (Below wo.heap.size wo wi)) (fun q _=>m - (intOf q).toNat)
   case atStart=>exact⟨0,rfl,Nat.zero_le _,by show ∀z∈_,_;simp,As _ _⟩
   case round=>
    obtain⟨k,rfl,hk,Hsm,Hbi⟩:=hrel
    have k1:(0:Int)<=(k:Int):=by omega
    obtain⟨wi,hwi⟩:∃wi,wi=wr:=⟨_,rfl⟩
    by_cases hkm:k<m
    ·have k2:(k:Int)<(m:Int):=by omega
     have hkL:k<L.length:=by have:=HlL.o;omega
     obtain⟨_,_,eq,_,hca0⟩:=(Hra.o.below Hbi.o).at_ hkm
     injection eq with eq
     injection eq with eq1 eq2 _
     subst eq1 eq2
     replace hca0:wr.cell? ⟨ga,k,none⟩=some (.string ⟨L[k].1.toArray⟩):=by simpa [Ae,HLa.o]using hca0
     have hcx0:=(Hbi.o.cell (p:=⟨b1,o1+m,none⟩) hb1).trans hc1
     have l1:ga<wr.heap.size:=Nat.lt_of_lt_of_le hla.2 Hbi.o.size
     have l2:b1<wr.heap.size:=Nat.lt_of_lt_of_le hb1 Hbi.o.size
     have Hts:=Aa (Bn L k hkL)
     have Hlk:=Aa (show ¬L[k].1<x->¬(fun z:List UInt8 × List UInt8=>z.1) L[k]<(fun z:List UInt8 × List UInt8=>z.1) (x,y)from id)
     by_cases hz:L[k].1<x
     ·have t1:Op.bytesLess L[k].1 x=true:=by rw[bytesLess_eq];simpa using hz
      have Hs2:=Aa (show ∀z∈L.take (k+1),z.1<x from by
       intro z hz2
       rw[Hts.o]at hz2
       rcases List.mem_append.1 hz2 with hz2|hz2
       ·exact Hsm.o z hz2
       simp only[List.mem_singleton]at hz2;subst hz2;exact hz)
      clear hz
      generalize L[k].1=z at *
      go_wp2_with fail
      refine rgB ?_
      iterate 15 refine sq ?_
      refine dnB fun w6 HB=>?_
      have Hb6:=Aa (Hbi.o.trans (HB.o.mono Hbi.o.size))
      clear HB
      go_wp2_with fail
      go_roundw
      case rel=>exact⟨k+1,by go_num,by omega,Hs2.o,Hb6.o⟩
      case measure=>simp[intOf];omega
     have t1:Op.bytesLess L[k].1 x=false:=by rw[bytesLess_eq];simpa using hz
     have Hge:=Aa (Hlk.o hz)
     clear hz Hlk
     have Hkk:=Aa hkL
     generalize hzz:L[k].1=z at *
     clear hzz
     go_wp2_with fail
     refine rgB ?_
     iterate 15 refine sq ?_
     refine dnB fun w7 HB=>?_
     have Hbj:=Aa (Hbi.o.trans (HB.o.mono Hbi.o.size))
     clear HB hca0 hcx0 l1 l2 t1
     go_wp2_with fail
     have hins:Ex (·.1) ((names.zip texts).take (m+1))=L.take k++(x,y)::L.drop k:=by
      rw[Hzp.o,Xl,<-HL.o]
      exact Yf (·.1) (x,y) L k (by have:=HlL.o;omega) Hsm.o (fun h=>Hge.o)
     have Hxa:=Aa (show (Ex (·.1) ((names.zip texts).take (m+1))).map (·.1)=La.take k++x::La.drop k by rw[hins,HLa.o];simp[List.map_take,List.map_drop])
     have Hxb:=Aa (show (Ex (·.1) ((names.zip texts).take (m+1))).map (·.2)=Lb.take k++y::Lb.drop k by rw[hins,HLb.o];simp[List.map_take,List.map_drop])
     clear hins
     have Hgar:=Aa (Hra.o.below Hbj.o)
     have hcx:=(Hbj.o.cell (p:=⟨b1,o1+m,none⟩) hb1).trans hc1
     have hlx:b1<w7.heap.size:=Nat.lt_of_lt_of_le hb1 Hbj.o.size
     have hkca:k<=ca:=by omega
     have hkcb:k<=cb:=by omega
     have hkma:k<=m:=hk
     refine rgF (fun l u W=>Jf w7 La k x (l 0) (l 4) (l 9) (l 10) (l 14) (l 15) (u 0) (u 4) (u 9) (u 10) (u 14) (u 15) W) (Ei w7) (fun _ _ _ h=>Gi h.bel) Jf.start ?_
     refine Ku (fun _=>True) (by
      intro l u W hl hp hF hG hi K hK
      have h:Jf w7 La k x (l 0) (l 4) (l 9) (l 10) (l 14) (l 15) (u 0) (u 4) (u 9) (u 10) (u 14) (u 15) W:=hF.o
      rw[hl]at h
      have h4:=(hi.o 4 (by rfl)).1
      clear hp
      have Hh:=Aa (h.op0 h4)
      clear h h4 hi hG
      go_simp
      exact hK _ _ _ Ab Hh.o rfl) ?_
     refine sqI 15 ?_
     refine sq ?_
     refine sq ?_
     refine Ku (fun _=>True) (by
      intro l u W hl hp hF hG hi K hK
      have h:Jf w7 La k x (l 0) (l 4) (l 9) (l 10) (l 14) (l 15) (u 0) (u 4) (u 9) (u 10) (u 14) (u 15) W:=hF.o
      rw[hl]at h
      simp[Region.binds,C7]at hp
      obtain⟨b,e0,ho⟩:=h.s0 (by simp[hp]) rfl
      have hb:=ho.lt b rfl
      simp only[Region.wanted,if_true]
      refine Ge W (.tmp 35) (.tmp 38) 63 rfl w7.heap.size 9 (.string ⟨#[]⟩) 16 underlying63 Dl (by decide) b 0 0 (Ae []) ?_ (some ⟨ga,0,none⟩) k ca (Ae (La.take k)) ?_ ?_ (Fj _) ho (by unfold maxLen;omega) (by omega) h.bel.size ?_
      ·simp[hp,e0];rfl
      ·simp[hp];rfl
      ·have q:=(Hgar.o.below h.bel).sub 0 k (by omega)
       simpa [Ae,List.map_take]using q
      intro g' c' w' ho' hg' hw'
      refine hK _ _ _ Ab ?_ rfl
      simp only[Nat.zero_add]at ho' ⊢
      exact h.op4 e0 hb.1 ho' hg' hw' (by simp[hp]) _ rfl) ?_
     refine sq ?_
     refine sq ?_
     refine sq ?_
     refine sq ?_
     refine Ku (fun _=>True) (by
      intro l u W hl hp hF hG hi K hK
      have h:Jf w7 La k x (l 0) (l 4) (l 9) (l 10) (l 14) (l 15) (u 0) (u 4) (u 9) (u 10) (u 14) (u 15) W:=hF.o
      rw[hl]at h
      have h10:=(hi.o 10 (by rfl)).1
      simp[Region.binds,C7]at hp
      have Hh:=Aa (h.op9 h10)
      clear h h10 hi hG
      go_simp
      exact hK _ _ _ Ab Hh.o (by first|rfl|(simp[Act.put,hp];done)|(simp[Act.put,hp];exact rfl))) ?_
     refine Ku (fun _=>True) (by
      intro l u W hl hp hF hG hi K hK
      have h:Jf w7 La k x (l 0) (l 4) (l 9) (l 10) (l 14) (l 15) (u 0) (u 4) (u 9) (u 10) (u 14) (u 15) W:=hF.o
      rw[hl]at h
      simp[Region.binds,C7]at hp
      obtain⟨b,c,e4,ho⟩:=h.s4 (by simp[hp]) rfl
      obtain⟨b9,e9,_,hb9,hc9,_,_⟩:=h.s9 (by simp[hp]) rfl
      have hb:=ho.lt b rfl
      simp only[Region.wanted,if_true]
      refine Ge W (.tmp 39) (.tmp 44) 63 rfl w7.heap.size 9 (.string ⟨#[]⟩) 16 underlying63 Dl (by decide) b k c (Ae (La.take k)) ?_ (some ⟨b9,0,none⟩) 1 1 [.string ⟨x.toArray⟩] ?_ ?_ (by simp[Value.oneCell']) ho (by unfold maxLen;omega) (by omega) h.bel.size ?_
      ·simp[hp,e4];rfl
      ·simp[hp,e9];rfl
      ·refine⟨rfl,by decide,fun _=>⟨b9,0,rfl,hb9,fun j u hj=>?_⟩⟩
       match j,hj with
       |0,hj=>simp at hj;subst hj;exact hc9
      intro g' c' w' ho' hg' _
      refine hK _ _ _ Ab ?_ rfl
      exact h.op10 (by simp[hp]) (by simp[hp]) hb.1 (by rw[show Ae (La.take k)++[.string ⟨x.toArray⟩]=Ae (La.take k++[x])by simp[Ae]]at ho';exact ho') hg' _ rfl) ?_
     refine sqI 15 ?_
     refine sq ?_
     refine sq ?_
     refine Ku (fun _=>True) (by
      intro l u W hl hp hF hG hi K hK
      have h:Jf w7 La k x (l 0) (l 4) (l 9) (l 10) (l 14) (l 15) (u 0) (u 4) (u 9) (u 10) (u 14) (u 15) W:=hF.o
      rw[hl]at h
      simp[Region.binds,C7]at hp
      obtain⟨b,c,e10,ho⟩:=h.s10 (by simp[hp]) rfl
      have hb:=ho.lt b rfl
      simp only[Region.wanted,if_true]
      refine Ge W (.tmp 45) (.tmp 48) 63 rfl w7.heap.size 9 (.string ⟨#[]⟩) 16 underlying63 Dl (by decide) b (k+1) c (Ae (La.take k++[x])) ?_ (if ca=k then some ⟨ga,0,none⟩else some ⟨ga,k,none⟩) (m - k) (ca - k) (Ae (La.drop k)) ?_ ?_ (Fj _) ho (by unfold maxLen;omega) (by omega) h.bel.size ?_
      ·simp[hp,e10];rfl
      ·simp[hp];rfl
      ·by_cases hck:ca=k
       ·have e0:m - k=0:=by omega
        rw[e0,show La.drop k=[]from List.drop_eq_nil_of_le (by omega)]
        exact⟨rfl,Nat.zero_le _,fun h=>absurd h (by simp)⟩
       rw[if_neg hck]
       have q:=(Hgar.o.below h.bel).sub k (m - k) (by omega)
       rw[Nat.zero_add]at q
       rw[show Ae (La.drop k)=((Ae La).drop k).take (m - k)by rw[show (Ae La).drop k=Ae (La.drop k)by simp[Ae,List.map_drop],List.take_of_length_le (by rw[Je,List.length_drop];omega)]]
       exact q
      intro g' c' w' ho' hg' _
      refine hK _ _ _ Ab ?_ rfl
      rw[show Ae (La.take k++[x])++Ae (La.drop k)=Ae (La.take k++x::La.drop k)by simp[Ae],show k+1+(m - k)=La.length+1 by omega]at ho'
      rw[show k+1+(m - k)=La.length+1 by omega]
      exact h.op14 (by simp[hp]) hb.1 ho' hg' _ rfl) ?_
     refine Ku (fun _=>True) (by
      intro l u W hl hp hF hG hi K hK
      have h:Jf w7 La k x (l 0) (l 4) (l 9) (l 10) (l 14) (l 15) (u 0) (u 4) (u 9) (u 10) (u 14) (u 15) W:=hF.o
      simp[Region.binds,C7]at hp
      have h15:=hl
      clear hG hi
      have HF:=Aa h
      clear h
      go_simp
      refine hK (u 14) _ _ Ab ?_ (by simp[Act.put,hp])
      have h:=HF.o
      exact⟨h.bel,h.d10,h.d14,fun _=>by simp[hp],h.s0,h.s4,h.s9,h.s10,h.s14,fun _=>rfl⟩) ?_
     intro l u w8 hl _ hR
     have hR:Jf w7 La k x (l 0) (l 4) (l 9) (l 10) (l 14) (l 15) (u 0) (u 4) (u 9) (u 10) (u 14) (u 15) w8:=hR
     obtain⟨g7,c7,e14,ho7⟩:=hR.s14 (hl 14 (by decide))
     rw[hlLa]at e14 ho7
     have e15:=(hR.s15 (hl 15 (by decide))).trans e14
     have hb7:=hR.bel
     simp only[e15]
     clear hl hR e14 e15
     have Hb7:=Aa (Hbj.o.trans (hb7.mono Hbj.o.size))
     have Ho7:=Aa ho7
     have hl78:=hb7.size
     have Hgbr:=Aa (Hrb.o.below Hb7.o)
     have hcy:=(Hb7.o.cell (p:=⟨b2,o2+m,none⟩) hb2).trans hc2
     have hly:b2<w8.heap.size:=Nat.lt_of_lt_of_le hb2 Hb7.o.size
     clear hb7 ho7 hcx hlx Hgar
     go_wp2_with fail
     refine rgF (fun l u W=>Jf w8 Lb k y (l 0) (l 4) (l 9) (l 10) (l 14) (l 15) (u 0) (u 4) (u 9) (u 10) (u 14) (u 15) W) (Ei w8) (fun _ _ _ h=>Gi h.bel) Jf.start ?_
     refine Ku (fun _=>True) (by
      intro l u W hl hp hF hG hi K hK
      have h:Jf w8 Lb k y (l 0) (l 4) (l 9) (l 10) (l 14) (l 15) (u 0) (u 4) (u 9) (u 10) (u 14) (u 15) W:=hF.o
      rw[hl]at h
      have h4:=(hi.o 4 (by rfl)).1
      clear hp
      have Hh:=Aa (h.op0 h4)
      clear h h4 hi hG
      go_simp
      exact hK _ _ _ Ab Hh.o rfl) ?_
     refine sqI 15 ?_
     refine sq ?_
     refine sq ?_
     refine Ku (fun _=>True) (by
      intro l u W hl hp hF hG hi K hK
      have h:Jf w8 Lb k y (l 0) (l 4) (l 9) (l 10) (l 14) (l 15) (u 0) (u 4) (u 9) (u 10) (u 14) (u 15) W:=hF.o
      rw[hl]at h
      simp[Region.binds,C7]at hp
      obtain⟨b,e0,ho⟩:=h.s0 (by simp[hp]) rfl
      have hb:=ho.lt b rfl
      simp only[Region.wanted,if_true]
      refine Ge W (.tmp 50) (.tmp 53) 63 rfl w8.heap.size 9 (.string ⟨#[]⟩) 16 underlying63 Dl (by decide) b 0 0 (Ae []) ?_ (some ⟨gb,0,none⟩) k cb (Ae (Lb.take k)) ?_ ?_ (Fj _) ho (by unfold maxLen;omega) (by omega) h.bel.size ?_
      ·simp[hp,e0];rfl
      ·simp[hp];rfl
      ·have q:=(Hgbr.o.below h.bel).sub 0 k (by omega)
       simpa [Ae,List.map_take]using q
      intro g' c' w' ho' hg' hw'
      refine hK _ _ _ Ab ?_ rfl
      simp only[Nat.zero_add]at ho' ⊢
      exact h.op4 e0 hb.1 ho' hg' hw' (by simp[hp]) _ rfl) ?_
     refine sq ?_
     refine sq ?_
     refine sq ?_
     refine sq ?_
     refine Ku (fun _=>True) (by
      intro l u W hl hp hF hG hi K hK
      have h:Jf w8 Lb k y (l 0) (l 4) (l 9) (l 10) (l 14) (l 15) (u 0) (u 4) (u 9) (u 10) (u 14) (u 15) W:=hF.o
      rw[hl]at h
      have h10:=(hi.o 10 (by rfl)).1
      simp[Region.binds,C7]at hp
      have Hh:=Aa (h.op9 h10)
      clear h h10 hi hG
      go_simp
      exact hK _ _ _ Ab Hh.o (by first|rfl|(simp[Act.put,hp];done)|(simp[Act.put,hp];exact rfl))) ?_
     refine Ku (fun _=>True) (by
      intro l u W hl hp hF hG hi K hK
      have h:Jf w8 Lb k y (l 0) (l 4) (l 9) (l 10) (l 14) (l 15) (u 0) (u 4) (u 9) (u 10) (u 14) (u 15) W:=hF.o
      rw[hl]at h
      simp[Region.binds,C7]at hp
      obtain⟨b,c,e4,ho⟩:=h.s4 (by simp[hp]) rfl
      obtain⟨b9,e9,_,hb9,hc9,_,_⟩:=h.s9 (by simp[hp]) rfl
      have hb:=ho.lt b rfl
      simp only[Region.wanted,if_true]
      refine Ge W (.tmp 54) (.tmp 59) 63 rfl w8.heap.size 9 (.string ⟨#[]⟩) 16 underlying63 Dl (by decide) b k c (Ae (Lb.take k)) ?_ (some ⟨b9,0,none⟩) 1 1 [.string ⟨y.toArray⟩] ?_ ?_ (by simp[Value.oneCell']) ho (by unfold maxLen;omega) (by omega) h.bel.size ?_
      ·simp[hp,e4];rfl
      ·simp[hp,e9];rfl
      ·refine⟨rfl,by decide,fun _=>⟨b9,0,rfl,hb9,fun j u hj=>?_⟩⟩
       match j,hj with
       |0,hj=>simp at hj;subst hj;exact hc9
      intro g' c' w' ho' hg' _
      refine hK _ _ _ Ab ?_ rfl
      exact h.op10 (by simp[hp]) (by simp[hp]) hb.1 (by rw[show Ae (Lb.take k)++[.string ⟨y.toArray⟩]=Ae (Lb.take k++[y])by simp[Ae]]at ho';exact ho') hg' _ rfl) ?_
     refine sqI 15 ?_
     refine sq ?_
     refine sq ?_
     refine Ku (fun _=>True) (by
      intro l u W hl hp hF hG hi K hK
      have h:Jf w8 Lb k y (l 0) (l 4) (l 9) (l 10) (l 14) (l 15) (u 0) (u 4) (u 9) (u 10) (u 14) (u 15) W:=hF.o
      rw[hl]at h
      simp[Region.binds,C7]at hp
      obtain⟨b,c,e10,ho⟩:=h.s10 (by simp[hp]) rfl
      have hb:=ho.lt b rfl
      simp only[Region.wanted,if_true]
      refine Ge W (.tmp 60) (.tmp 63) 63 rfl w8.heap.size 9 (.string ⟨#[]⟩) 16 underlying63 Dl (by decide) b (k+1) c (Ae (Lb.take k++[y])) ?_ (if cb=k then some ⟨gb,0,none⟩else some ⟨gb,k,none⟩) (m - k) (cb - k) (Ae (Lb.drop k)) ?_ ?_ (Fj _) ho (by unfold maxLen;omega) (by omega) h.bel.size ?_
      ·simp[hp,e10];rfl
      ·simp[hp];rfl
      ·by_cases hck:cb=k
       ·have e0:m - k=0:=by omega
        rw[e0,show Lb.drop k=[]from List.drop_eq_nil_of_le (by omega)]
        exact⟨rfl,Nat.zero_le _,fun h=>absurd h (by simp)⟩
       rw[if_neg hck]
       have q:=(Hgbr.o.below h.bel).sub k (m - k) (by omega)
       rw[Nat.zero_add]at q
       rw[show Ae (Lb.drop k)=((Ae Lb).drop k).take (m - k)by rw[show (Ae Lb).drop k=Ae (Lb.drop k)by simp[Ae,List.map_drop],List.take_of_length_le (by rw[Je,List.length_drop];omega)]]
       exact q
      intro g' c' w' ho' hg' _
      refine hK _ _ _ Ab ?_ rfl
      rw[show Ae (Lb.take k++[y])++Ae (Lb.drop k)=Ae (Lb.take k++y::Lb.drop k)by simp[Ae],show k+1+(m - k)=Lb.length+1 by omega]at ho'
      rw[show k+1+(m - k)=Lb.length+1 by omega]
      exact h.op14 (by simp[hp]) hb.1 ho' hg' _ rfl) ?_
     refine Ku (fun _=>True) (by
      intro l u W hl hp hF hG hi K hK
      have h:Jf w8 Lb k y (l 0) (l 4) (l 9) (l 10) (l 14) (l 15) (u 0) (u 4) (u 9) (u 10) (u 14) (u 15) W:=hF.o
      simp[Region.binds,C7]at hp
      have h15:=hl
      clear hG hi
      have HF:=Aa h
      clear h
      go_simp
      refine hK (u 14) _ _ Ab ?_ (by simp[Act.put,hp])
      have h:=HF.o
      exact⟨h.bel,h.d10,h.d14,fun _=>by simp[hp],h.s0,h.s4,h.s9,h.s10,h.s14,fun _=>rfl⟩) ?_
     intro l u w9 hl _ hR
     have hR:Jf w8 Lb k y (l 0) (l 4) (l 9) (l 10) (l 14) (l 15) (u 0) (u 4) (u 9) (u 10) (u 14) (u 15) w9:=hR
     obtain⟨g8,c8,e14,ho8⟩:=hR.s14 (hl 14 (by decide))
     rw[hlLb]at e14 ho8
     have e15:=(hR.s15 (hl 15 (by decide))).trans e14
     have hb8:=hR.bel
     simp only[e15]
     clear hl hR e14 e15
     have h77:=Ho7.o.lt g7 rfl
     have h88:=ho8.lt g8 rfl
     have Hn2:=Aa (show g7≠g8 by omega)
     have Hoa2:=Aa (show M1 w.heap.size w9 g7 (m+1) c7 ((Ex (·.1) ((names.zip texts).take (m+1))).map (·.1))by rw[Hxa.o];exact Sh (Bf Ho7.o hb8) (by have:=Hbr.o.size;have:=Hbj.o.size;omega))
     have Hob2:=Aa (show M1 w.heap.size w9 g8 (m+1) c8 ((Ex (·.1) ((names.zip texts).take (m+1))).map (·.2))by rw[Hxb.o];exact Sh ho8 (by have:=Hbr.o.size;have:=Hbj.o.size;omega))
     have Hb9:=Aa (Hbr.o.trans ((Hb7.o.trans (hb8.mono Hb7.o.size)).mono Hbr.o.size))
     clear hb8 ho8 h77 h88 hcy hly
     go_wp2_with fail
     go_roundw
     case rel=>exact⟨m+1,g7,c7,g8,c8,by go_num,rfl,rfl,by omega,Hn2.o,Hoa2.o,Hob2.o,Hb9.o⟩
     case measure=>simp[intOf];omega
    ·have hkm2:k=m:=by omega
     have k2:¬((k:Int)<(m:Int)):=by omega
     have Hkm2:=Aa hkm2
     clear hkm2
     go_wp2_with fail
     refine rgB ?_
     iterate 15 refine sq ?_
     refine dnB fun w7 HB=>?_
     have Hbj:=Aa (Hbi.o.trans (HB.o.mono Hbi.o.size))
     clear HB
     go_wp2_with fail
     have hins:Ex (·.1) ((names.zip texts).take (m+1))=L.take k++(x,y)::L.drop k:=by
      rw[Hzp.o,Xl,<-HL.o]
      exact Yf (·.1) (x,y) L k (by have:=HlL.o;omega) Hsm.o (fun h=>absurd h (by have:=HlL.o;omega))
     have Hxa:=Aa (show (Ex (·.1) ((names.zip texts).take (m+1))).map (·.1)=La.take k++x::La.drop k by rw[hins,HLa.o];simp[List.map_take,List.map_drop])
     have Hxb:=Aa (show (Ex (·.1) ((names.zip texts).take (m+1))).map (·.2)=Lb.take k++y::Lb.drop k by rw[hins,HLb.o];simp[List.map_take,List.map_drop])
     clear hins
     have Hgar:=Aa (Hra.o.below Hbj.o)
     have hcx:=(Hbj.o.cell (p:=⟨b1,o1+m,none⟩) hb1).trans hc1
     have hlx:b1<w7.heap.size:=Nat.lt_of_lt_of_le hb1 Hbj.o.size
     have hkca:k<=ca:=by omega
     have hkcb:k<=cb:=by omega
     have hkma:k<=m:=hk
     refine rgF (fun l u W=>Jf w7 La k x (l 0) (l 4) (l 9) (l 10) (l 14) (l 15) (u 0) (u 4) (u 9) (u 10) (u 14) (u 15) W) (Ei w7) (fun _ _ _ h=>Gi h.bel) Jf.start ?_
     refine Ku (fun _=>True) (by
      intro l u W hl hp hF hG hi K hK
      have h:Jf w7 La k x (l 0) (l 4) (l 9) (l 10) (l 14) (l 15) (u 0) (u 4) (u 9) (u 10) (u 14) (u 15) W:=hF.o
      rw[hl]at h
      have h4:=(hi.o 4 (by rfl)).1
      clear hp
      have Hh:=Aa (h.op0 h4)
      clear h h4 hi hG
      go_simp
      exact hK _ _ _ Ab Hh.o rfl) ?_
     refine sqI 15 ?_
     refine sq ?_
     refine sq ?_
     refine Ku (fun _=>True) (by
      intro l u W hl hp hF hG hi K hK
      have h:Jf w7 La k x (l 0) (l 4) (l 9) (l 10) (l 14) (l 15) (u 0) (u 4) (u 9) (u 10) (u 14) (u 15) W:=hF.o
      rw[hl]at h
      simp[Region.binds,C7]at hp
      obtain⟨b,e0,ho⟩:=h.s0 (by simp[hp]) rfl
      have hb:=ho.lt b rfl
      simp only[Region.wanted,if_true]
      refine Ge W (.tmp 35) (.tmp 38) 63 rfl w7.heap.size 9 (.string ⟨#[]⟩) 16 underlying63 Dl (by decide) b 0 0 (Ae []) ?_ (some ⟨ga,0,none⟩) k ca (Ae (La.take k)) ?_ ?_ (Fj _) ho (by unfold maxLen;omega) (by omega) h.bel.size ?_
      ·simp[hp,e0];rfl
      ·simp[hp];rfl
      ·have q:=(Hgar.o.below h.bel).sub 0 k (by omega)
       simpa [Ae,List.map_take]using q
      intro g' c' w' ho' hg' hw'
      refine hK _ _ _ Ab ?_ rfl
      simp only[Nat.zero_add]at ho' ⊢
      exact h.op4 e0 hb.1 ho' hg' hw' (by simp[hp]) _ rfl) ?_
     refine sq ?_
     refine sq ?_
     refine sq ?_
     refine sq ?_
     refine Ku (fun _=>True) (by
      intro l u W hl hp hF hG hi K hK
      have h:Jf w7 La k x (l 0) (l 4) (l 9) (l 10) (l 14) (l 15) (u 0) (u 4) (u 9) (u 10) (u 14) (u 15) W:=hF.o
      rw[hl]at h
      have h10:=(hi.o 10 (by rfl)).1
      simp[Region.binds,C7]at hp
      have Hh:=Aa (h.op9 h10)
      clear h h10 hi hG
      go_simp
      exact hK _ _ _ Ab Hh.o (by first|rfl|(simp[Act.put,hp];done)|(simp[Act.put,hp];exact rfl))) ?_
     refine Ku (fun _=>True) (by
      intro l u W hl hp hF hG hi K hK
      have h:Jf w7 La k x (l 0) (l 4) (l 9) (l 10) (l 14) (l 15) (u 0) (u 4) (u 9) (u 10) (u 14) (u 15) W:=hF.o
      rw[hl]at h
      simp[Region.binds,C7]at hp
      obtain⟨b,c,e4,ho⟩:=h.s4 (by simp[hp]) rfl
      obtain⟨b9,e9,_,hb9,hc9,_,_⟩:=h.s9 (by simp[hp]) rfl
      have hb:=ho.lt b rfl
      simp only[Region.wanted,if_true]
      refine Ge W (.tmp 39) (.tmp 44) 63 rfl w7.heap.size 9 (.string ⟨#[]⟩) 16 underlying63 Dl (by decide) b k c (Ae (La.take k)) ?_ (some ⟨b9,0,none⟩) 1 1 [.string ⟨x.toArray⟩] ?_ ?_ (by simp[Value.oneCell']) ho (by unfold maxLen;omega) (by omega) h.bel.size ?_
      ·simp[hp,e4];rfl
      ·simp[hp,e9];rfl
      ·refine⟨rfl,by decide,fun _=>⟨b9,0,rfl,hb9,fun j u hj=>?_⟩⟩
       match j,hj with
       |0,hj=>simp at hj;subst hj;exact hc9
      intro g' c' w' ho' hg' _
      refine hK _ _ _ Ab ?_ rfl
      exact h.op10 (by simp[hp]) (by simp[hp]) hb.1 (by rw[show Ae (La.take k)++[.string ⟨x.toArray⟩]=Ae (La.take k++[x])by simp[Ae]]at ho';exact ho') hg' _ rfl) ?_
     refine sqI 15 ?_
     refine sq ?_
     refine sq ?_
     refine Ku (fun _=>True) (by
      intro l u W hl hp hF hG hi K hK
      have h:Jf w7 La k x (l 0) (l 4) (l 9) (l 10) (l 14) (l 15) (u 0) (u 4) (u 9) (u 10) (u 14) (u 15) W:=hF.o
      rw[hl]at h
      simp[Region.binds,C7]at hp
      obtain⟨b,c,e10,ho⟩:=h.s10 (by simp[hp]) rfl
      have hb:=ho.lt b rfl
      simp only[Region.wanted,if_true]
      refine Ge W (.tmp 45) (.tmp 48) 63 rfl w7.heap.size 9 (.string ⟨#[]⟩) 16 underlying63 Dl (by decide) b (k+1) c (Ae (La.take k++[x])) ?_ (if ca=k then some ⟨ga,0,none⟩else some ⟨ga,k,none⟩) (m - k) (ca - k) (Ae (La.drop k)) ?_ ?_ (Fj _) ho (by unfold maxLen;omega) (by omega) h.bel.size ?_
      ·simp[hp,e10];rfl
      ·simp[hp];rfl
      ·by_cases hck:ca=k
       ·have e0:m - k=0:=by omega
        rw[e0,show La.drop k=[]from List.drop_eq_nil_of_le (by omega)]
        exact⟨rfl,Nat.zero_le _,fun h=>absurd h (by simp)⟩
       rw[if_neg hck]
       have q:=(Hgar.o.below h.bel).sub k (m - k) (by omega)
       rw[Nat.zero_add]at q
       rw[show Ae (La.drop k)=((Ae La).drop k).take (m - k)by rw[show (Ae La).drop k=Ae (La.drop k)by simp[Ae,List.map_drop],List.take_of_length_le (by rw[Je,List.length_drop];omega)]]
       exact q
      intro g' c' w' ho' hg' _
      refine hK _ _ _ Ab ?_ rfl
      rw[show Ae (La.take k++[x])++Ae (La.drop k)=Ae (La.take k++x::La.drop k)by simp[Ae],show k+1+(m - k)=La.length+1 by omega]at ho'
      rw[show k+1+(m - k)=La.length+1 by omega]
      exact h.op14 (by simp[hp]) hb.1 ho' hg' _ rfl) ?_
     refine Ku (fun _=>True) (by
      intro l u W hl hp hF hG hi K hK
      have h:Jf w7 La k x (l 0) (l 4) (l 9) (l 10) (l 14) (l 15) (u 0) (u 4) (u 9) (u 10) (u 14) (u 15) W:=hF.o
      simp[Region.binds,C7]at hp
      have h15:=hl
      clear hG hi
      have HF:=Aa h
      clear h
      go_simp
      refine hK (u 14) _ _ Ab ?_ (by simp[Act.put,hp])
      have h:=HF.o
      exact⟨h.bel,h.d10,h.d14,fun _=>by simp[hp],h.s0,h.s4,h.s9,h.s10,h.s14,fun _=>rfl⟩) ?_
     intro l u w8 hl _ hR
     have hR:Jf w7 La k x (l 0) (l 4) (l 9) (l 10) (l 14) (l 15) (u 0) (u 4) (u 9) (u 10) (u 14) (u 15) w8:=hR
     obtain⟨g7,c7,e14,ho7⟩:=hR.s14 (hl 14 (by decide))
     rw[hlLa]at e14 ho7
     have e15:=(hR.s15 (hl 15 (by decide))).trans e14
     have hb7:=hR.bel
     simp only[e15]
     clear hl hR e14 e15
     have Hb7:=Aa (Hbj.o.trans (hb7.mono Hbj.o.size))
     have Ho7:=Aa ho7
     have hl78:=hb7.size
     have Hgbr:=Aa (Hrb.o.below Hb7.o)
     have hcy:=(Hb7.o.cell (p:=⟨b2,o2+m,none⟩) hb2).trans hc2
     have hly:b2<w8.heap.size:=Nat.lt_of_lt_of_le hb2 Hb7.o.size
     clear hb7 ho7 hcx hlx Hgar
     go_wp2_with fail
     refine rgF (fun l u W=>Jf w8 Lb k y (l 0) (l 4) (l 9) (l 10) (l 14) (l 15) (u 0) (u 4) (u 9) (u 10) (u 14) (u 15) W) (Ei w8) (fun _ _ _ h=>Gi h.bel) Jf.start ?_
     refine Ku (fun _=>True) (by
      intro l u W hl hp hF hG hi K hK
      have h:Jf w8 Lb k y (l 0) (l 4) (l 9) (l 10) (l 14) (l 15) (u 0) (u 4) (u 9) (u 10) (u 14) (u 15) W:=hF.o
      rw[hl]at h
      have h4:=(hi.o 4 (by rfl)).1
      clear hp
      have Hh:=Aa (h.op0 h4)
      clear h h4 hi hG
      go_simp
      exact hK _ _ _ Ab Hh.o rfl) ?_
     refine sqI 15 ?_
     refine sq ?_
     refine sq ?_
     refine Ku (fun _=>True) (by
      intro l u W hl hp hF hG hi K hK
      have h:Jf w8 Lb k y (l 0) (l 4) (l 9) (l 10) (l 14) (l 15) (u 0) (u 4) (u 9) (u 10) (u 14) (u 15) W:=hF.o
      rw[hl]at h
      simp[Region.binds,C7]at hp
      obtain⟨b,e0,ho⟩:=h.s0 (by simp[hp]) rfl
      have hb:=ho.lt b rfl
      simp only[Region.wanted,if_true]
      refine Ge W (.tmp 50) (.tmp 53) 63 rfl w8.heap.size 9 (.string ⟨#[]⟩) 16 underlying63 Dl (by decide) b 0 0 (Ae []) ?_ (some ⟨gb,0,none⟩) k cb (Ae (Lb.take k)) ?_ ?_ (Fj _) ho (by unfold maxLen;omega) (by omega) h.bel.size ?_
      ·simp[hp,e0];rfl
      ·simp[hp];rfl
      ·have q:=(Hgbr.o.below h.bel).sub 0 k (by omega)
       simpa [Ae,List.map_take]using q
      intro g' c' w' ho' hg' hw'
      refine hK _ _ _ Ab ?_ rfl
      simp only[Nat.zero_add]at ho' ⊢
      exact h.op4 e0 hb.1 ho' hg' hw' (by simp[hp]) _ rfl) ?_
     refine sq ?_
     refine sq ?_
     refine sq ?_
     refine sq ?_
     refine Ku (fun _=>True) (by
      intro l u W hl hp hF hG hi K hK
      have h:Jf w8 Lb k y (l 0) (l 4) (l 9) (l 10) (l 14) (l 15) (u 0) (u 4) (u 9) (u 10) (u 14) (u 15) W:=hF.o
      rw[hl]at h
      have h10:=(hi.o 10 (by rfl)).1
      simp[Region.binds,C7]at hp
      have Hh:=Aa (h.op9 h10)
      clear h h10 hi hG
      go_simp
      exact hK _ _ _ Ab Hh.o (by first|rfl|(simp[Act.put,hp];done)|(simp[Act.put,hp];exact rfl))) ?_
     refine Ku (fun _=>True) (by
      intro l u W hl hp hF hG hi K hK
      have h:Jf w8 Lb k y (l 0) (l 4) (l 9) (l 10) (l 14) (l 15) (u 0) (u 4) (u 9) (u 10) (u 14) (u 15) W:=hF.o
      rw[hl]at h
      simp[Region.binds,C7]at hp
      obtain⟨b,c,e4,ho⟩:=h.s4 (by simp[hp]) rfl
      obtain⟨b9,e9,_,hb9,hc9,_,_⟩:=h.s9 (by simp[hp]) rfl
      have hb:=ho.lt b rfl
      simp only[Region.wanted,if_true]
      refine Ge W (.tmp 54) (.tmp 59) 63 rfl w8.heap.size 9 (.string ⟨#[]⟩) 16 underlying63 Dl (by decide) b k c (Ae (Lb.take k)) ?_ (some ⟨b9,0,none⟩) 1 1 [.string ⟨y.toArray⟩] ?_ ?_ (by simp[Value.oneCell']) ho (by unfold maxLen;omega) (by omega) h.bel.size ?_
      ·simp[hp,e4];rfl
      ·simp[hp,e9];rfl
      ·refine⟨rfl,by decide,fun _=>⟨b9,0,rfl,hb9,fun j u hj=>?_⟩⟩
       match j,hj with
       |0,hj=>simp at hj;subst hj;exact hc9
      intro g' c' w' ho' hg' _
      refine hK _ _ _ Ab ?_ rfl
      exact h.op10 (by simp[hp]) (by simp[hp]) hb.1 (by rw[show Ae (Lb.take k)++[.string ⟨y.toArray⟩]=Ae (Lb.take k++[y])by simp[Ae]]at ho';exact ho') hg' _ rfl) ?_
     refine sqI 15 ?_
     refine sq ?_
     refine sq ?_
     refine Ku (fun _=>True) (by
      intro l u W hl hp hF hG hi K hK
      have h:Jf w8 Lb k y (l 0) (l 4) (l 9) (l 10) (l 14) (l 15) (u 0) (u 4) (u 9) (u 10) (u 14) (u 15) W:=hF.o
      rw[hl]at h
      simp[Region.binds,C7]at hp
      obtain⟨b,c,e10,ho⟩:=h.s10 (by simp[hp]) rfl
      have hb:=ho.lt b rfl
      simp only[Region.wanted,if_true]
      refine Ge W (.tmp 60) (.tmp 63) 63 rfl w8.heap.size 9 (.string ⟨#[]⟩) 16 underlying63 Dl (by decide) b (k+1) c (Ae (Lb.take k++[y])) ?_ (if cb=k then some ⟨gb,0,none⟩else some ⟨gb,k,none⟩) (m - k) (cb - k) (Ae (Lb.drop k)) ?_ ?_ (Fj _) ho (by unfold maxLen;omega) (by omega) h.bel.size ?_
      ·simp[hp,e10];rfl
      ·simp[hp];rfl
      ·by_cases hck:cb=k
       ·have e0:m - k=0:=by omega
        rw[e0,show Lb.drop k=[]from List.drop_eq_nil_of_le (by omega)]
        exact⟨rfl,Nat.zero_le _,fun h=>absurd h (by simp)⟩
       rw[if_neg hck]
       have q:=(Hgbr.o.below h.bel).sub k (m - k) (by omega)
       rw[Nat.zero_add]at q
       rw[show Ae (Lb.drop k)=((Ae Lb).drop k).take (m - k)by rw[show (Ae Lb).drop k=Ae (Lb.drop k)by simp[Ae,List.map_drop],List.take_of_length_le (by rw[Je,List.length_drop];omega)]]
       exact q
      intro g' c' w' ho' hg' _
      refine hK _ _ _ Ab ?_ rfl
      rw[show Ae (Lb.take k++[y])++Ae (Lb.drop k)=Ae (Lb.take k++y::Lb.drop k)by simp[Ae],show k+1+(m - k)=Lb.length+1 by omega]at ho'
      rw[show k+1+(m - k)=Lb.length+1 by omega]
      exact h.op14 (by simp[hp]) hb.1 ho' hg' _ rfl) ?_
     refine Ku (fun _=>True) (by
      intro l u W hl hp hF hG hi K hK
      have h:Jf w8 Lb k y (l 0) (l 4) (l 9) (l 10) (l 14) (l 15) (u 0) (u 4) (u 9) (u 10) (u 14) (u 15) W:=hF.o
      simp[Region.binds,C7]at hp
      have h15:=hl
      clear hG hi
      have HF:=Aa h
      clear h
      go_simp
      refine hK (u 14) _ _ Ab ?_ (by simp[Act.put,hp])
      have h:=HF.o
      exact⟨h.bel,h.d10,h.d14,fun _=>by simp[hp],h.s0,h.s4,h.s9,h.s10,h.s14,fun _=>rfl⟩) ?_
     intro l u w9 hl _ hR
     have hR:Jf w8 Lb k y (l 0) (l 4) (l 9) (l 10) (l 14) (l 15) (u 0) (u 4) (u 9) (u 10) (u 14) (u 15) w9:=hR
     obtain⟨g8,c8,e14,ho8⟩:=hR.s14 (hl 14 (by decide))
     rw[hlLb]at e14 ho8
     have e15:=(hR.s15 (hl 15 (by decide))).trans e14
     have hb8:=hR.bel
     simp only[e15]
     clear hl hR e14 e15
     have h77:=Ho7.o.lt g7 rfl
     have h88:=ho8.lt g8 rfl
     have Hn2:=Aa (show g7≠g8 by omega)
     have Hoa2:=Aa (show M1 w.heap.size w9 g7 (m+1) c7 ((Ex (·.1) ((names.zip texts).take (m+1))).map (·.1))by rw[Hxa.o];exact Sh (Bf Ho7.o hb8) (by have:=Hbr.o.size;have:=Hbj.o.size;omega))
     have Hob2:=Aa (show M1 w.heap.size w9 g8 (m+1) c8 ((Ex (·.1) ((names.zip texts).take (m+1))).map (·.2))by rw[Hxb.o];exact Sh ho8 (by have:=Hbr.o.size;have:=Hbj.o.size;omega))
     have Hb9:=Aa (Hbr.o.trans ((Hb7.o.trans (hb8.mono Hb7.o.size)).mono Hbr.o.size))
     clear hb8 ho8 h77 h88 hcy hly
     go_wp2_with fail
     go_roundw
     case rel=>exact⟨m+1,g7,c7,g8,c8,by go_num,rfl,rfl,by omega,Hn2.o,Hoa2.o,Hob2.o,Hb9.o⟩
     case measure=>simp[intOf];omega
  ·obtain rfl:m=n:=by omega
   have ht:(names.zip texts).take m=names.zip texts:=List.take_of_length_le (by simp;omega)
   rw[ht]at Hoa Hob
   go_wp2_with fail
   go_ret2
   exact⟨ga,ca,gb,cb,rfl,Hoa.o,Hob.o,Hne.o,Hbr.o⟩
theorem To(c:UInt8)(p:List UInt8):∀(l:List (List UInt8)),Ak c (l++[p])=if l=[]then p else Ak c l++c::p
 |[]=>rfl
 |[q]=>rfl
 |q::r::l=>by
  have ih:=To c p (r::l)
  rw[if_neg (by simp)]at ih ⊢
  rw[List.cons_append,Ch c q (by simp),ih,Ch c q (by simp)]
  simp
theorem Xi(c:UInt8)(m:Nat):∀(l:List (List UInt8)),(∀p∈l,p.length<=m)->(Ak c l).length<=l.length*(m+1)
 |[],_=>by simp[Ak]
 |[q],h=>by have:=h q (by simp);simp[Ak];omega
 |q::r::l,h=>by
  have h1:=h q (by simp)
  have h2:=Xi c m (r::l) (fun p hp=>h p (by simp[hp]))
  rw[Ch c q (by simp),List.length_append,List.length_cons,List.length_cons,Nat.add_mul]
  omega
theorem V0(A:Option Addr)(c:Nat)(ps:List (List UInt8))(w:World)(hr:Bh w A ps.length (Ae ps))(hl:ps.length<=100)(hp:∀p∈ps,p.length<=10000):
  Calls prog 32 #[.slice A ps.length c] w fun e w'=>e=.returned (.string ⟨(Ak 44 ps).toArray⟩)/\w=w':=by
 have Hr:=Aa hr
 have Hp:=Aa hp
 clear hr hp
 go_enter func32,ntmps32
 go_wp2_with fail
 go_loop [4,3] (fun i s=>∃k:Nat,i=.int .i64 k/\k<=ps.length/\s=.string ⟨(Ak 44 (ps.take k)).toArray⟩) (fun i _=>ps.length - (intOf i).toNat)
 case atStart=>exact⟨0,rfl,Nat.zero_le _,rfl⟩
 case round=>
  obtain⟨k,rfl,hk,rfl⟩:=hrel
  have k1:(0:Int)<=(k:Int):=by omega
  have hjl:=Xi 44 10000 (ps.take k) (fun p hp=>Hp.o p (List.mem_of_mem_take hp))
  rw[List.length_take,Nat.min_eq_left hk]at hjl
  by_cases hlt:k<ps.length
  ·have k2:(k:Int)<(ps.length:Int):=by omega
   obtain⟨b,off,rfl,hb,hc⟩:=Hr.o.at_ hlt
   have c0:w.cell? ⟨b,off+k,none⟩=some (.string ⟨ps[k].toArray⟩):=by rw[hc];simp[Ae]
   have Hsn:=Aa (show Ak 44 (ps.take (k+1))=if ps.take k=[]then ps[k]else Ak 44 (ps.take k)++44::ps[k]from by rw[Bn ps k hlt];exact To 44 ps[k] (ps.take k))
   have hpl:=Hp.o _ (List.getElem_mem hlt)
   have He:Hid (ps.take k=[]↔k=0):=by
    constructor
    ·intro h
     have:=congrArg List.length h
     rw[List.length_take,Nat.min_eq_left hk]at this
     simpa using this
    rintro rfl;rfl
   generalize ps[k]=p at c0 Hsn hpl
   clear hc
   by_cases h0:k=0
   ·have h0i:¬(0:Int)<(k:Int):=by omega
    have Hs2:=Aa (Hsn.o.trans (if_pos (He.o.2 h0)))
    have hj0:Ak 44 (ps.take k)=[]:=by rw[He.o.2 h0];rfl
    rw[hj0]
    clear h0 hjl hj0
    go_wp2_with fail
    go_round
    case rel=>exact⟨k+1,by go_num,by omega,by rw[Hs2.o]⟩
    case measure=>simp[intOf];omega
   have h0i:(0:Int)<(k:Int):=by omega
   have Hs2:=Aa (Hsn.o.trans (if_neg (fun h=>h0 (He.o.1 h))))
   generalize Ak 44 (ps.take k)=js at *
   clear h0
   go_wp2_with fail
   go_round
   case rel=>exact⟨k+1,by go_num,by omega,by rw[Hs2.o]⟩
   case measure=>simp[intOf];omega
  ·obtain rfl:k=ps.length:=by omega
   have Hfin:Hid (ps.take ps.length=ps):=List.take_length
   go_wp2_with fail
   go_ret
   exact⟨by first|rfl|rw[Hfin.o],rfl⟩
def sfR:Option Fd->Value
 |some f=>.tuple #[sfV f,.bool true]
 |none=>.tuple #[sf0,.bool false]
theorem Sr(st nm fv:Value)(fs:List Fd)(n:Nat)(w:World)(h:Fg w fv fs)(hn:n<=1000000000):
  Calls prog 68 #[.agg #[st,nm,fv],.int .i64 n] w fun e w'=>e=.returned (sfR (Bg fs n))/\Below w.heap.size w w':=by
 obtain⟨A,c,rfl,hl,hr⟩:=h
 have Hr:=Aa hr
 clear hr
 go_enter func68,ntmps68
 go_wp2_with fail
 go_loopw [6] (fun i wr=>∃k:Nat,i=.int .i64 k/\k<=fs.length/\wr=(w.alloc (.cells #[st,nm,.slice A fs.length c] 95)).alloc (.cells #[.int .i64 0,.string ⟨#[]⟩,.string ⟨#[]⟩,.string ⟨#[]⟩] 118)/\Hid (∀f∈fs.take k,decide (f.tag=n)=false)) (fun i _=>fs.length - (intOf i).toNat)
 case atStart=>exact⟨0,rfl,Nat.zero_le _,rfl,by intro f hf;simp at hf⟩
 case round=>
  obtain⟨k,rfl,hk,rfl,hin⟩:=hrel
  by_cases hlt:k<fs.length
  ·obtain⟨b,off,rfl,hb,c0,c1,c2,c3⟩:=Fg.at_ Hr.o hlt
   have Hts:=Aa (Bn fs k hlt)
   have Hft:=Aa (Q6 (p:=fun f=>decide (f.tag=n)) hlt hin.o)
   generalize fs[k]=f at c0 c1 c2 c3 Hts Hft
   have k1:(0:Int)<=(k:Int):=by omega
   have k2:(k:Int)<(fs.length:Int):=by omega
   by_cases he:f.tag=n
   ·have t1:((f.tag:Int) == (n:Int))=true:=by simp[he]
    have Hfin:=Aa (show Bg fs n=some f by unfold Bg;rw[Hft.o,if_pos (by simpa using he)])
    clear he
    go_wp2_with fail
    exact bodyPost_ret (v:=.tuple #[sfV f,.bool true]) (by simp[results,results68,go_sem,sfV]) rfl ⟨by rw[Hfin.o];rfl,((As _ _).alloc (Ap _) _).alloc (by simp) _⟩
   have t1:((f.tag:Int) == (n:Int))=false:=by rw[beq_eq_false_iff_ne];omega
   have Hin:=Aa (show ∀g∈fs.take (k+1),decide (g.tag=n)=false by
    intro g hg
    rw[Hts.o]at hg
    rcases List.mem_append.1 hg with hg|hg
    ·exact hin.o g hg
    simp at hg;subst hg;simpa using he)
   clear he
   go_wp2_with fail
   go_roundw
   case rel=>exact⟨k+1,by go_num,by omega,Ab,Hin.o⟩
   case measure=>simp[intOf];omega
  ·have Hfin:=Aa (show Bg fs n=none from Kz (fun f hf=>hin.o f (by rw[List.take_of_length_le (by omega)];exact hf)))
   go_wp2_with fail
   exact bodyPost_ret (v:=.tuple #[sf0,.bool false]) (by simp[results,results68,go_sem,sf0]) rfl ⟨by rw[Hfin.o];rfl,((As _ _).alloc (Ap _) _).alloc (by simp) _⟩
def Q4:Option (Ty × Value)->Value
 |some x=>.tuple #[Pc x.1 x.2,.bool true]
 |none=>.tuple #[M3,.bool false]
theorem Qr(v:Value)(xs:List (Ty × Value))(n:List UInt8)(w:World)(h:Kf w v xs):
  Calls prog 45 #[v,.string ⟨n.toArray⟩] w fun e w'=>e=.returned (Q4 (Ew xs n))/\Below w.heap.size w w':=by
 obtain⟨A,c,rfl,hl,hr,hf⟩:=h
 have Hr:=Aa hr
 have Hf:=Aa hf
 clear hr hf
 go_enter func45,ntmps45
 go_wp2_with fail
 go_loopw [6] (fun i wr=>∃k:Nat,i=.int .i64 k/\k<=xs.length/\wr=w.alloc (.cells #[.int .u8 0,.string ⟨#[]⟩,.slice none 0 0] 95)/\Hid (∀x∈xs.take k,decide (x.1.name=n)=false)) (fun i _=>xs.length - (intOf i).toNat)
 case atStart=>exact⟨0,rfl,Nat.zero_le _,rfl,by intro f hf;simp at hf⟩
 case round=>
  obtain⟨k,rfl,hk,rfl,hin⟩:=hrel
  by_cases hlt:k<xs.length
  ·obtain⟨b,off,rfl,hb,c0,c1,c2⟩:=Kf.at_ Hr.o hlt
   have Hts:=Aa (Bn xs k hlt)
   have Hft:=Aa (Q6 (p:=fun x=>decide (x.1.name=n)) hlt hin.o)
   have hfx:=Hf.o _ (List.getElem_mem hlt)
   generalize xs[k]=x at c0 c1 c2 Hts Hft hfx
   obtain⟨t,fv⟩:=x
   simp only[]at c0 c1 c2 hfx
   obtain⟨A2,d2,hfv,_⟩:=hfx
   subst hfv
   have k1:(0:Int)<=(k:Int):=by omega
   have k2:(k:Int)<(xs.length:Int):=by omega
   by_cases he:t.name=n
   ·have t1:(t.name == n)=true:=by simp[he]
    have Hfin:=Aa (show Ew xs n=some (t,.slice A2 t.fields.length d2)by unfold Ew;rw[Hft.o,if_pos (by simpa using he)])
    clear he
    go_wp2_with fail
    refine bodyPost_ret (v:=.tuple #[Pc t (.slice A2 t.fields.length d2),.bool true]) (by simp[results,results45,go_sem,Pc]) rfl ?_
    exact⟨by rw[Hfin.o];rfl,(As _ _).alloc (Ap _) _⟩
   have t1:(t.name == n)=false:=by simpa using he
   have Hin:=Aa (show ∀g∈xs.take (k+1),decide (g.1.name=n)=false by
    intro g hg
    rw[Hts.o]at hg
    rcases List.mem_append.1 hg with hg|hg
    ·exact hin.o g hg
    simp at hg;subst hg;simpa using he)
   clear he
   go_wp2_with fail
   go_roundw
   case rel=>exact⟨k+1,by go_num,by omega,Ab,Hin.o⟩
   case measure=>simp[intOf];omega
  ·have Hfin:=Aa (show Ew xs n=none from Kz (fun f hf=>hin.o f (by rw[List.take_of_length_le (by omega)];exact hf)))
   go_wp2_with fail
   refine bodyPost_ret (v:=.tuple #[M3,.bool false]) (by simp[results,results45,go_sem,M3]) rfl ?_
   exact⟨by rw[Hfin.o];rfl,(As _ _).alloc (Ap _) _⟩
theorem Qhf{k:Kd}(h:Co k):(k.signs=[]/\k.base=[64]/\Bq k=64::(k.name++[59])/\k.name.length<=3)\/(¬(k.signs=[]/\k.base=[64])/\∃c t,Bq k=c::t/\c≠64/\t.length<=12):=by
 obtain⟨h1,h2,h3⟩:=h
 cases hs:k.signs with
 |cons c t=>
  refine .inr ⟨by simp,c,t++Ce k,by unfold Bq;rw[hs];rfl,?_,?_⟩
  ·rw[hs]at h1
   simp only[List.all_cons,Bool.and_eq_true]at h1
   rintro rfl
   exact absurd h1.1 (by decide)
  unfold Bq at h3;rw[hs]at h3;simp at h3 ⊢;omega
 |nil=>
  rcases h2 with⟨hb,hn⟩|⟨hb,_⟩
  ·exact .inl ⟨rfl,hb,by unfold Bq Ce;rw[hs,if_pos hb];rfl,(C9.1 hn).2.1⟩
  refine .inr ⟨?_,?_⟩
  ·rintro⟨_,h⟩
   rcases hb with hb|hb|hb<;>· rw[hb]at h;revert h;decide
  have hc:Bq k=k.base:=by
   unfold Bq Ce
   rw[hs,if_neg (by rcases hb with hb|hb|hb<;>· rw[hb];decide)];rfl
  rw[hc]
  rcases hb with hb|hb|hb<;>· rw[hb];exact⟨_,_,rfl,by decide,by simp⟩
theorem Gv(v:Value)(xs:List (Ty × Value))(k:Kd)(w:World)(h:Kf w v xs)(hk:Co k):
  Calls prog 47 #[v,.string ⟨(Bq k).toArray⟩] w fun e w'=>e=.returned (Q4 (Ki xs k))/\Below w.heap.size w w':=by
 have H:=Aa h
 clear h
 rcases Qhf hk with⟨h1,h2,h3,h4⟩|⟨h1,c,t,h3,h4,h5⟩
 ·have Hr:=Aa (show Ki xs k=Ew xs k.name from if_pos ⟨h1,h2⟩)
  rw[h3]
  clear h1 h2 h3
  go_enter func47,ntmps47
  go_wp2_with fail
  refine(Xc k.name _ (by omega)).mono ?_
  rintro e w' ⟨rfl,rfl⟩
  go_wp2_with fail
  refine(Qr v xs k.name _ (H.o.below ((As _ _).alloc (Ap _) _))).mono ?_
  rintro e w2 ⟨rfl,hb⟩
  cases hf:Ew xs k.name with
  |none=>
   rw[hf]at Hr
   obtain⟨hc,hfz,hz⟩:=Bw hb
   have Hb:=Aa (((As w.heap.size w).alloc (Ap _) _).trans (hb.mono (by simp)))
   clear hb hf
   unfold Q4 M3
   go_wp2_with fail
   refine bodyPost_ret (v:=.tuple #[M3,.bool false]) (by simp[results,results47,go_sem,M3,hc]) rfl ?_
   exact⟨by rw[Hr.o];rfl,((Hb.o.setCell (Ap _) _).setCell (Ap _) _).setCell (Ap _) _⟩
  |some x=>
   obtain⟨t,fv⟩:=x
   have hm:=(Ek hf).1
   obtain⟨A,c,_,_,_,hfs⟩:=H.o
   obtain⟨A2,d2,e2,_⟩:=hfs _ hm
   simp only at e2
   subst e2
   rw[hf]at Hr
   obtain⟨hc,hfz,hz⟩:=Bw hb
   have Hb:=Aa (((As w.heap.size w).alloc (Ap _) _).trans (hb.mono (by simp)))
   clear hb hf hm hfs
   unfold Q4 Pc
   go_wp2_with fail
   refine bodyPost_ret (v:=.tuple #[Pc t (.slice A2 t.fields.length d2),.bool true]) (by simp[results,results47,go_sem,Pc,hc]) rfl ?_
   exact⟨by rw[Hr.o];rfl,((Hb.o.setCell (Ap _) _).setCell (Ap _) _).setCell (Ap _) _⟩
 have Hr:=Aa (show Ki xs k=none from if_neg h1)
 rw[h3]
 clear h1 h3
 go_enter func47,ntmps47
 go_wp2_with fail
 refine(Zk c t _ h4 (by omega)).mono ?_
 rintro e w' ⟨rfl,rfl⟩
 go_wp2_with fail
 refine bodyPost_ret (v:=.tuple #[M3,.bool false]) (by simp[results,results47,go_sem,M3]) rfl ?_
 exact⟨by rw[Hr.o];rfl,(As _ _).alloc (Ap _) _⟩
def C5(s d:List UInt8):Option (List Ty × Kd):=
 match Ca s with
 |none=>none
 |some S=>match Cg d with
  |none=>none
  |some k=>if Cb S k then some (S,k)else none
theorem Qcf{s d:List UInt8}{S:List Ty}{k:Kd}(h:C5 s d=some (S,k)):Ca s=some S/\Cg d=some k/\Cb S k:=by
 unfold C5 at h
 cases h1:Ca s with
 |none=>rw[h1]at h;cases h
 |some T=>cases h2:Cg d with
  |none=>rw[h1,h2]at h;cases h
  |some q=>
   rw[h1,h2]at h
   simp only at h
   split at h
   ·rename_i hr
    simp only[Option.some.injEq,Prod.mk.injEq]at h
    obtain⟨rfl,rfl⟩:=h
    exact⟨rfl,rfl,hr⟩
   cases h
theorem P1{s d:List UInt8}{S:List Ty}{k:Kd}(h:C5 s d=some (S,k)):P5 S/\s.length<=400/\scB S=s/\Co k/\Bq k=d/\Cb S k:=by
 obtain⟨h1,h2,h3⟩:=Qcf h
 obtain⟨a1,a2,a3⟩:=Qe.1 h1
 obtain⟨b1,b2⟩:=Ee.1 h2
 exact⟨a1,a2,a3,b1,b2,h3⟩
def J7(s d x:List UInt8)(w:World)(e:Ending)(w':World):Prop:=Below w.heap.size w w'/\match C5 s d with
 |none=>∃v q,e=.returned (.tuple #[v,.pointer q,.bool false])
 |some y=>match Jr y.1 y.2 x with
  |none=>∃v q,e=.returned (.tuple #[v,.pointer q,.bool false])
  |some v=>∃xv xs b,e=.returned (.tuple #[xv,.pointer (some ⟨b,0,none⟩),.bool true])/\Al xs=y.1/\Kf w' xv xs/\Ga (fun c=>w.heap.size<=c) w' b (Cq y.1 y.2 v)
end
end Go.Proofs.YtkigmebejmmikaaGreatDoor
