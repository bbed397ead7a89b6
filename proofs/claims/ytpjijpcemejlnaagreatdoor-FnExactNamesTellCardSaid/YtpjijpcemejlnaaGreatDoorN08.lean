/- Texts joined. Conditions: as each theorem names them. -/
import Derived.Sort.Walk0
import Derived.Test.YtpjijpcemejlnaaGreatDoorN07
set_option maxRecDepth 100000
set_option maxHeartbeats 32000000
set_option linter.unusedVariables false
set_option linter.unusedSimpArgs false
namespace Go.Proofs.YtpjijpcemejlnaaGreatDoor
open Go.RowKit Go.Proofs.Tryz
section
attribute [local go_sem] Qhn Qg5 Qgq Qe7 ByteArray.mk_append_mk
theorem P9(c:UInt8)(p:List UInt8):∀(l:List (List UInt8)),Ap c (l++[p])=if l.length=0 then p else Ap c l++c::p
 |[]=>rfl
 |[q]=>by simp[Ap]
 |q::r::l=>by
  have ih:=P9 c p (r::l);rw[au,Ce c q aK,ih,Ce c q aK];simp
def Fe(l:List UInt8)(w:World)(e:Ending)(w':World):Prop:=e=.returned l/\Below w w w'
theorem Ge.open_{P:Nat->Prop}{w:World}{b:Nat}{kind text:List UInt8}{tags:List Nat}{kids:List SV}(h:Ge P w b (.mk kind text tags kids)):∃(A1 A2:Option Addr) (c1 c2:Nat) (xs:List (Nat × SV)),b<w.heap.size/\P b/\w.cell? (b,0)=kind/\w.cell? (b,1)=text /\
  w.cell? (b,2)=some (.slice A1 tags.length c1)/\w.cell? (b,3)=some (.slice A2 xs.length c2)/\Bl w A1 tags.length (Eb tags)/\Bl w A2 xs.length (Ej (xs.map (·.1)))/\tags.length<=1000/\xs.length<=1000/\kids=xs.map (·.2)/\∀x∈xs,Ge P w x.1 x.2:=by
 obtain⟨k,t,g,A1,A2,c1,c2,xs,hv,hb,hP,h0,h1,h2,h3,hr1,hr2,hl1,hl2,_,_,h⟩:=h;injection hv with e1 e2 e3 e4;subst e1 e2 e3 e4;exact⟨A1,A2,c1,c2,xs,hb,hP,h0,h1,h2,h3,hr1,hr2,hl1,hl2,rfl,h⟩
theorem Sp{xs:List (Nat × SV)}{i:Nat}(hi:i<xs.length):(Ej (xs.map (·.1)))[i]'(by simp[Ej];exact hi)=.pointer (some ⟨xs[i].1,0,none⟩):=by simp[Ej]
theorem Qay{l:List Nat}{i:Nat}(hi:i<l.length):(Eb l)[i]'(by simp[Eb];exact hi)=.int .i64 (l[i]:Int):=by simp[Eb]
theorem N8(P:Nat->Prop)(b:Nat)(c:UInt8)(tx:List UInt8)(w:World)(hc:c=110\/c=116\/c=102)(h:Ge P w b (.mk [c] tx [] [])):Calls prog 50 #[b] w (Fe tx w):=by
 obtain⟨_,_,_,_,_,hb,_,h0,h1,_⟩:=h.open_;have HR:=Aa h1;rcases hc with rfl|rfl|rfl<;>
 ·go_enter func50,ntmps50;go_wp2_with fail;go_ret;exact gS
theorem Qef(P:Nat->Prop)(b:Nat)(kr:List UInt8)(kids:List SV)(ks:List Vl)(w:World)(h:Ge P w b (.mk (91::kr) [] [] kids))(hkr:kr.length<=100)(hl:(Bh (.mk 91 [] 0 ks)).length<=100000000)(hkl:kids.length=ks.length)
  (ih:∀(i:Nat) (hi:i<kids.length) (hi2:i<ks.length) b W,Ge P W b kids[i]->(Bh ks[i]).length<=100000000->Calls prog 50 #[.pointer (some ⟨b,0,none⟩)] W (Fe (Bh ks[i]) W)):
  Calls prog 50 #[.pointer (some ⟨b,0,none⟩)] w (Fe (Bh (.mk 91 [] 0 ks)) w):=by
 obtain⟨A1,A2,c1,c2,xs,hb,_,h0,_,_,h3,_,hr2,_,hxl,rfl,hk⟩:=h.open_;have HF:=Aa (H7 ks);have hjl:(Ap 44 (ks.map Bh)).length<=100000000:=by rw[H7]at hl;simp at hl;omega
 rw[Ch]at hjl
 have Hjt:=Aa (fun i (hi:i<ks.length)=>(show Du ((ks.take (i+1)).map Bh)<=Du (ks.map Bh)/\(Bh ks[i]).length+1+Du ((ks.take i).map Bh)=Du ((ks.take (i+1)).map Bh)from by
  refine⟨?_,?_⟩
  ·conv=>rhs;rw[<-List.take_append_drop (i+1) ks,ay]
   exact gW
  rw[Bn ks i hi,ay];simp[Du];omega))
 have hkl2:xs.length=ks.length:=by simpa using hkl
 have Ih:=Aa ih;have Hr:=Aa hr2;have Hk:=Aa hk;have Hkl:=Aa hkl2;have Hlen:=Aa hjl;have hle:ks.length<=xs.length:=aG;clear hkl hkl2 ih hr2 hk h hl hjl;go_enter func50,ntmps50;go_wp2_with fail;go_loopw [4,3] (fun i s wr=>∃m:Nat,i=.int .i64 m/\m<=xs.length/\s=.string ⟨(91::Ap 44 ((ks.take m).map Bh):List UInt8).toArray⟩/\Hid (Below w w wr)) (fun i _ _=>xs.length - (intOf i).toNat)
 case atStart=>exact⟨0,rfl,ag _,rfl,At _ _⟩
 case round=>
  obtain⟨m,rfl,hm,rfl,Hbr⟩:=hrel;have m1:(0:Int)<=(m:Int):=aG;have g3:=(Hbr.o.cell (p:=⟨b,3,none⟩) hb).trans h3;have hbw:b<wr.heap.size:=dQ;have HJ:=Aa (Ch 44 ((ks.take m).map Bh));by_cases hlt:m<xs.length
  ·have m2:(m:Int)<(xs.length:Int):=aG;have hltk:m<ks.length:=dG;obtain⟨b8,o8,rfl,hb8,hc8⟩:=(Hr.o.below Hbr.o).at_ hlt;rw[Sp hlt]at hc8;have HX:=Aa (fun W (hW:Below w w W)=>Ih.o m (by simpa using hlt) hltk xs[m].1 W dM (by obtain⟨q1,q2⟩:=Hjt.o m hltk;have:=Hlen.o;omega));obtain⟨q1,q2⟩:=Hjt.o m hltk;have hjm:(Ap 44 ((ks.take m).map Bh)).length<=100000000:=by rw[HJ.o];have:=Hlen.o;omega
   have hpm:(Bh ks[m]).length<=100000000:=by have:=Hlen.o;omega
   have HP:=Aa (show Ap 44 ((ks.take (m+1)).map Bh)=if m=0 then Bh ks[m]else Ap 44 ((ks.take m).map Bh)++44::Bh ks[m]from by
    rw[Bn ks m hltk,ay,List.map_singleton,P9];have:((ks.take m).map Bh).length=m:=aN;rw[this])
   have HP0:=@Aa (m=0->Ap 44 ((ks.take m).map Bh)=[]) (by rintro rfl;rfl);clear q1 q2;generalize Bh ks[m]=pm at *;generalize Ap 44 ((ks.take m).map Bh)=jm at *;generalize xs[m].1=bm at *;by_cases h0m:m=0
   ·have t0:¬(0<m):=aG;have t1:¬((0:Int)<(m:Int)):=aG;have HP1:=Aa (HP.o.trans (if_pos h0m));have HP2:=Aa (HP0.o h0m);clear h0m HP HP0 HJ;go_wp2_with fail;refine(HX.o _ Hbr.o).mono ?_;rintro e w3 ⟨rfl,hb3⟩;have Hb3:=Aa (Hbr.o.trans (hb3.mono Hbr.o.size));clear hb3;go_wp2_with fail;go_roundw
    case rel=>exact⟨m+1,by go_num,by omega,by rw[HP1.o,HP2.o];rfl,Hb3.o⟩
    case measure=>simp[intOf];omega
   have t0:0<m:=aG;have t1:(0:Int)<(m:Int):=aG;have HP1:=Aa (HP.o.trans (if_neg h0m));clear h0m HP HP0 HJ;go_wp2_with fail;refine(HX.o _ Hbr.o).mono ?_;rintro e w3 ⟨rfl,hb3⟩;have Hb3:=Aa (Hbr.o.trans (hb3.mono Hbr.o.size));clear hb3;go_wp2_with fail;go_roundw
   case rel=>exact⟨m+1,by go_num,by omega,by rw[HP1.o]<;>simp,Hb3.o⟩
   case measure=>simp[intOf];omega
  ·have em:m=ks.length:=dG;have HE:=Aa (show Ap 44 ((ks.take m).map Bh)=Ap 44 (ks.map Bh)by rw[em,List.take_length]);have hjm:(Ap 44 ((ks.take m).map Bh)).length<=100000000:=by rw[HE.o,Ch];exact Hlen.o
   clear em HJ;generalize Ap 44 ((ks.take m).map Bh)=jm at *;go_wp2_with fail;go_ret;exact⟨by rw[HF.o,<-HE.o];rfl,Hbr.o⟩
theorem Yr(P:Nat->Prop)(b:Nat)(kr:List UInt8)(kids:List SV)(o:Option Vl)(w:World)(h:Ge P w b (.mk (63::kr) [] [] kids))(hkr:kr.length<=100)(hl:(Bh (.mk 63 [] 0 o.toList)).length<=100000000)(hkl:kids.length=o.toList.length)
  (ih:∀x,o=some x->∀b W y,y∈kids->Ge P W b y->Calls prog 50 #[.pointer (some ⟨b,0,none⟩)] W (Fe (Bh x) W)):
  Calls prog 50 #[.pointer (some ⟨b,0,none⟩)] w (Fe (Bh (.mk 63 [] 0 o.toList)) w):=by
 obtain⟨A1,A2,c1,c2,xs,hb,_,h0,_,_,h3,_,hr2,_,hxl,rfl,hk⟩:=h.open_;cases o with
 |none=>
  have hx0:xs=[]:=by simpa using hkl
  subst hx0;clear hk hr2 ih h;go_enter func50,ntmps50;go_wp2_with fail;go_ret;exact gS
 |some x=>
  obtain⟨⟨bx,y⟩,rfl⟩:∃a,xs=[a]:=by
   cases xs with
   |nil=>simp at hkl
   |cons a l=>cases l with
    |nil=>exact⟨a,rfl⟩
    |cons b l=>simp at hkl
  have HF:=Aa (show Bh (.mk 63 [] 0 [x])=43::Bh x by simp[Bh,D7,H9,Ap]);have hpl:(Bh x).length<=100000000:=by have:=HF.o;simp only[Option.toList]at hl;rw[this]at hl;simp at hl;omega
  obtain⟨b8,o8,rfl,hb8,hc8⟩:=hr2.at_ (show 0<1 by decide);simp[Ej]at hc8;have HX:=Aa (ih x rfl bx w y aK (hk (bx,y) aK));simp only[List.length_singleton]at h3;clear hk hr2 ih h hkl;generalize Bh x=px at *;go_enter func50,ntmps50;go_wp2_with fail;refine HX.o.mono ?_;rintro e w3 ⟨rfl,hb3⟩;have Hb3:=Aa hb3;clear hb3;go_wp2_with fail;go_ret;exact⟨by show _=Ending.returned (.string ⟨(Bh (.mk 63 [] 0 [x])).toArray⟩);rw[HF.o];rfl,Hb3.o⟩
theorem Re{w:World}{base lo n k:Nat}{e:TypeId}{v:Value}{xs:List Value}(h:w.ownsRow base e k v n xs)(hl:lo<=base):w.ownsRow lo e k v n xs:=by
 rcases h with⟨h1,h2|⟨g,cap,cur,h2,h3,h4⟩⟩
 ·exact⟨h1,.inl h2⟩
 exact⟨h1,.inr ⟨g,cap,cur,h2,Nat.le_trans hl h3,h4⟩⟩
structure Gw(vo vo':Value)(w w':World):Prop where
 gr:w.grownBy w' vo.ownBlock
 own:vo'.ownBlock=vo.ownBlock\/∃k,vo'.ownBlock=some k/\w.heap.size<=k
theorem Gw.refl(vo:Value)(w:World):Gw vo vo w w:=⟨World.grownBy.refl _ _,.inl rfl⟩
theorem Gw.trans{v1 v2 v3:Value}{a b c:World}(h:Gw v1 v2 a b)(k:Gw v2 v3 b c):Gw v1 v3 a c:=by
 refine⟨⟨k.gr.os.trans h.gr.os,k.gr.tape.trans h.gr.tape,k.gr.output.trans h.gr.output,Nat.le_trans h.gr.size k.gr.size,fun x hx hne=>(k.gr.block x (Nat.lt_of_lt_of_le hx h.gr.size) ?_).trans (h.gr.block x hx hne)⟩,?_⟩
 ·rcases h.own with e|⟨y,e,hy⟩
  ·rw[e];exact hne
  rw[e];intro he;injection he with he;omega
 rcases k.own with e|⟨y,e,hy⟩
 ·rw[e];exact h.own
 exact .inr ⟨y,e,Nat.le_trans h.gr.size hy⟩
theorem Gw.of{v:Value}{a b:World}(hb:Below a.heap.size a b):Gw v v a b:=⟨⟨hb.os,hb.tape,hb.output,hb.size,fun k hk _=>hb.block k hk⟩,.inl rfl⟩
theorem Bl.sub{w:World}{g o n:Nat}{xs:List Value}(h:Bl w (some ⟨g,o,none⟩) n xs)(a k:Nat)(hk:a+k<=n):Bl w (some ⟨g,o+a,none⟩) k ((xs.drop a).take k):=by
 refine⟨by have:=h.1;simp;omega,by have:=h.2.1;omega,fun hn=>?_⟩
 obtain⟨b,off,e,hlt,hc⟩:=h.2.2 (by omega)
 injection e with e;injection e with e1 e2;subst e1 e2
 refine⟨_,_,rfl,hlt,fun j u hj=>?_⟩
 have:=hc (a+j) u (by
  rw[List.getElem?_take]at hj
  split at hj
  ·rwa [List.getElem?_drop]at hj
  cases hj)
 rwa [Nat.add_assoc]
abbrev Kt(B:Nat)(W:World)(g n c:Nat)(xs:List (List UInt8)):Prop:=W.ownsRow B 9 1 (.slice (some ⟨g,0,none⟩) n c) n (Af xs)
structure G0(w0:World)(xs:List (List UInt8))(k:Nat)(x:List UInt8)(l0 l4 l9 l10 l14 l15:Bool)(u0 u4 u9 u10 u14 u15:Value)(W:World):Prop where
 bel:Below w0.heap.size w0 W
 d10:l10=true->l4=true/\l9=true
 d14:l14=true->l10=true
 d15:l15=true->l14=true
 s0:l0=true->l4=false->∃b,u0=.slice (some ⟨b,0,none⟩) 0 0/\Kt w0.heap.size W b 0 0 []
 s4:l4=true->l10=false->∃b c,u4=.slice (some ⟨b,0,none⟩) k c/\Kt w0.heap.size W b k c (xs.take k)
 s9:l9=true->l10=false->∃b,u9=.slice (some ⟨b,0,none⟩) 1 1/\w0.heap.size<=b/\b<W.heap.size/\W.cell? ⟨b,0,none⟩=some (.string ⟨x.toArray⟩)/\(l0=true->l4=false->u0.ownBlock≠some b)/\(l4=true->u4.ownBlock≠some b)
 s10:l10=true->l14=false->∃b c,u10=.slice (some ⟨b,0,none⟩) (k+1) c/\Kt w0.heap.size W b (k+1) c (xs.take k++[x])
 s14:l14=true->∃b c,u14=.slice (some ⟨b,0,none⟩) (xs.length+1) c/\Kt w0.heap.size W b (xs.length+1) c (xs.take k++x::xs.drop k)
 s15:l15=true->u15=u14
section
variable {w0 W W':World} {xs:List (List UInt8)} {k:Nat} {x:List UInt8} {l0 l4 l9 l10 l14 l15:Bool} {u0 u4 u9 u10 u14 u15:Value}
theorem G0.start:G0 w0 xs k x false false false false false false u0 u4 u9 u10 u14 u15 w0.drew:=
 ⟨(At _ _).drew,by simp,by simp,by simp,by simp,by simp,by simp,by simp,by simp,by simp⟩
theorem G0.op0(h:G0 w0 xs k x false l4 l9 l10 l14 l15 u0 u4 u9 u10 u14 u15 W)(h4:l4=false):G0 w0 xs k x true l4 l9 l10 l14 l15 (.slice (some ⟨W.heap.size,0,none⟩) 0 0) u4 u9 u10 u14 u15 (W.alloc (.cells #[] 9)):=by
 subst h4
 have hb:=(At W.heap.size W).alloc (Ao _) (.cells #[] 9)
 refine⟨h.bel.alloc h.bel.size _,h.d10,h.d14,h.d15,fun _ _=>⟨_,rfl,Nk W _ _ h.bel.size⟩,by simp,fun h9 h10=>?_,fun h1 h2=>?_,fun h1=>?_,h.s15⟩
 ·obtain⟨b,e,e1,e2,e3,_,_⟩:=h.s9 h9 h10
  exact⟨b,e,e1,Nat.lt_of_lt_of_le e2 hb.size,(hb.cell (p:=⟨b,0,none⟩) e2).trans e3,fun _ _ e=>absurd (show W.heap.size=b by injection e) (by omega),by simp⟩
 ·obtain⟨b,c,e,ho⟩:=h.s10 h1 h2
  exact⟨b,c,e,Be ho hb⟩
 obtain⟨b,c,e,ho⟩:=h.s14 h1
 exact⟨b,c,e,Be ho hb⟩
theorem G0.op4(h:G0 w0 xs k x l0 false l9 l10 l14 l15 u0 u4 u9 u10 u14 u15 W){b g c:Nat}(e0:u0=.slice (some ⟨b,0,none⟩) 0 0)(hl:w0.heap.size<=b)(ho:Kt w0.heap.size W' g k c (xs.take k))(hg:W.grownBy W' (some b))(hw:g=b\/W.heap.size<=g)(h0:l0=true)(v4:Value)(e4:v4=.slice (some ⟨g,0,none⟩) k c):
  G0 w0 xs k x l0 true l9 l10 l14 l15 u0 v4 u9 u10 u14 u15 W':=by
 subst e4
 have h10:l10=false:=by cases hq:l10 with|false=>rfl|true=>exact absurd (h.d10 hq).1 (by decide)
 have h14:l14=false:=by cases hq:l14 with|false=>rfl|true=>exact absurd (h10.symm.trans (h.d14 hq)) (by decide)
 subst h10 h14
 refine⟨h.bel.grown hg h.bel.size (fun q hq=>by injection hq with hq;omega),by simp,by simp,h.d15,by simp,fun _ _=>⟨g,c,rfl,ho⟩,fun h9 _=>?_,by simp,by simp,h.s15⟩
 obtain⟨b9,e,e1,e2,e3,e4,_⟩:=h.s9 h9 rfl
 have hne:=e4 h0 rfl
 rw[e0]at hne
 refine⟨b9,e,e1,Nat.lt_of_lt_of_le e2 hg.size,hg.cell e3 (fun e=>hne e.symm),by simp,fun _ e=>?_⟩
 have e:g=b9:=by injection e
 rcases hw with hw|hw
 ·exact hne (by rw[<-hw,e];rfl)
 omega
theorem G0.op9(h:G0 w0 xs k x l0 l4 false l10 l14 l15 u0 u4 u9 u10 u14 u15 W)(h10:l10=false):G0 w0 xs k x l0 l4 true l10 l14 l15 u0 u4 (.slice (some ⟨W.heap.size,0,none⟩) 1 1) u10 u14 u15 (W.alloc (.cells #[.string ⟨x.toArray⟩] 9)):=by
 subst h10
 have h14:l14=false:=by cases hq:l14 with|false=>rfl|true=>exact absurd (h.d14 hq) (by decide)
 subst h14
 have hb:=(At W.heap.size W).alloc (Ao _) (.cells #[.string ⟨x.toArray⟩] 9)
 refine⟨h.bel.alloc h.bel.size _,by simp,by simp,h.d15,fun h0 h4=>?_,fun h4 h5=>?_,fun _ _=>⟨_,rfl,h.bel.size,by simp,by simp,fun h0 h4 e=>?_,fun h4 e=>?_⟩,by simp,by simp,h.s15⟩
 ·obtain⟨b,e,ho⟩:=h.s0 h0 h4
  exact⟨b,e,Be ho hb⟩
 ·obtain⟨b,c,e,ho⟩:=h.s4 h4 h5
  exact⟨b,c,e,Be ho hb⟩
 ·obtain⟨b,e',ho⟩:=h.s0 h0 h4
  rw[e']at e
  have:=(ho.lt _ e).2
  omega
 obtain⟨b,c,e',ho⟩:=h.s4 h4 rfl
 rw[e']at e
 have:=(ho.lt _ e).2
 omega
theorem G0.op10(h:G0 w0 xs k x l0 l4 l9 false l14 l15 u0 u4 u9 u10 u14 u15 W)(h4:l4=true)(h9:l9=true){b g c:Nat}(hl:w0.heap.size<=b)(ho:Kt w0.heap.size W' g (k+1) c (xs.take k++[x]))(hg:W.grownBy W' (some b))(v10:Value)(e10:v10=.slice (some ⟨g,0,none⟩) (k+1) c):
  G0 w0 xs k x l0 l4 l9 true l14 l15 u0 u4 u9 v10 u14 u15 W':=by
 have h14:l14=false:=by cases hq:l14 with|false=>rfl|true=>exact absurd (h.d14 hq) (by decide)
 subst e10 h4 h9 h14
 exact⟨h.bel.grown hg h.bel.size (fun q hq=>by injection hq with hq;omega),by simp,by simp,h.d15,by simp,by simp,by simp,fun _ _=>⟨g,c,rfl,ho⟩,by simp,h.s15⟩
theorem G0.op14(h:G0 w0 xs k x l0 l4 l9 l10 false l15 u0 u4 u9 u10 u14 u15 W)(h10:l10=true){b g c:Nat}(hl:w0.heap.size<=b)(ho:Kt w0.heap.size W' g (xs.length+1) c (xs.take k++x::xs.drop k))(hg:W.grownBy W' (some b))(v14:Value)(e14:v14=.slice (some ⟨g,0,none⟩) (xs.length+1) c):
  G0 w0 xs k x l0 l4 l9 l10 true l15 u0 u4 u9 u10 v14 u15 W':=by
 have h15:l15=false:=by cases hq:l15 with|false=>rfl|true=>exact absurd (h.d15 hq) (by decide)
 subst e14 h10 h15
 have:=(h.d10 rfl).1
 subst this
 exact⟨h.bel.grown hg h.bel.size (fun q hq=>by injection hq with hq;omega),fun _=>⟨rfl,(h.d10 rfl).2⟩,by simp,by simp,by simp,by simp,by simp,by simp,fun _=>⟨g,c,rfl,ho⟩,by simp⟩
end
def Qe9(n:Nat)(xs ys:List (List UInt8))(w:World)(e:Ending)(w':World):Prop:=
 ∃ga ca gb cb,e=.returned (.tuple #[.slice (some ⟨ga,0,none⟩) n ca,.slice (some ⟨gb,0,none⟩) n cb])/\Kt w.heap.size w' ga n ca xs/\Kt w.heap.size w' gb n cb ys/\ga≠gb/\Below w.heap.size w w'
theorem Tg(names texts:List (List UInt8))(m:Nat)(h1:m<names.length)(h2:m<texts.length):(names.zip texts).take (m+1)=(names.zip texts).take m++[(names[m],texts[m])]:=by
 rw[Bn _ m (by simp;omega)]
 simp
theorem Qce(A B:Option Addr)(n c d:Nat)(names texts:List (List UInt8))(w:World)(hr1:Bl w A n (Af names))(hr2:Bl w B n (Af texts))(hn:n<=1000):
  Calls prog 58 #[.slice A n c,.slice B n d] w (Qe9 n ((Fc (·.1) (names.zip texts)).map (·.1)) ((Fc (·.1) (names.zip texts)).map (·.2)) w):=by
 have hn1:names.length=n:=by have:=hr1.1;simpa [Af]using this
 have hn2:texts.length=n:=by have:=hr2.1;simpa [Af]using this
 go_enter func58,ntmps58
 go_wp2_with fail
 generalize hw1:World.alloc (World.alloc w _) _=w1
 have hb1:Below w.heap.size w w1:=by rw[<-hw1];exact((At _ _).alloc (Ao _) _).alloc (by simp) _
 have ho1:Kt w.heap.size w1 w.heap.size 0 0 []:=by rw[<-hw1];exact Be (Nk w _ _ (Ao _)) ((At _ _).alloc (Ao _) _)
 have ho2:Kt w.heap.size w1 (w.heap.size+1) 0 0 []:=by rw[<-hw1];have:=Nk (w.alloc (.cells #[] 9)) 9 w.heap.size (by simp);show World.ownsRow _ _ _ _ _ _ _;simpa [Af]using this
 have Hb1:=Aa hb1
 have Ho1:=Aa ho1
 have Ho2:=Aa ho2
 have Hr1:=Aa hr1
 have Hr2:=Aa hr2
 clear hw1 hb1 ho1 ho2 hr1 hr2
 go_loopw [8,6,7,9] (fun i a b x wr=>∃(m ga ca gb cb:Nat),i=.int .i64 m/\a=.slice (some ⟨ga,0,none⟩) m ca/\b=.slice (some ⟨gb,0,none⟩) m cb/\m<=n/\Hid (ga≠gb)/\Hid (Kt w.heap.size wr ga m ca ((Fc (·.1) ((names.zip texts).take m)).map (·.1)))/\Hid (Kt w.heap.size wr gb m cb ((Fc (·.1) ((names.zip texts).take m)).map (·.2)))/\Hid (Below w.heap.size w wr)) (fun i _ _ _ _=>n - (intOf i).toNat)
 case atStart=>exact⟨0,w.heap.size,0,w.heap.size+1,0,rfl,rfl,rfl,Nat.zero_le _,by show _≠_;omega,Ho1.o,Ho2.o,Hb1.o⟩
 case round=>
  obtain⟨m,ga,ca,gb,cb,rfl,rfl,rfl,hm,Hne,Hoa,Hob,Hbr⟩:=hrel
  have m1:(0:Int)<=(m:Int):=by omega
  obtain⟨wo,rfl⟩:∃wo,wo=wr:=⟨_,rfl⟩
  by_cases hlt:m<n
  ·have m2:(m:Int)<(n:Int):=by omega
   have hlL:(Fc (·.1) ((names.zip texts).take m)).length=m:=by rw[(Gp _ _).length_eq];simp;omega
   obtain⟨_,_,ea,hra⟩:=Bl.own Hoa.o
   injection ea with ea1 ea2 ea3
   subst ea1 ea3
   obtain⟨_,_,eb,hrb⟩:=Bl.own Hob.o
   injection eb with eb1 eb2 eb3
   subst eb1 eb3
   have hla:=Hoa.o.lt ga rfl
   have hlb:=Hob.o.lt gb rfl
   have hca:m<=ca:=Vd Hoa.o
   have hcb:m<=cb:=Vd Hob.o
   obtain⟨b1,o1,rfl,hb1,hc1⟩:=(Hr1.o.below Hbr.o).at_ hlt
   obtain⟨b2,o2,rfl,hb2,hc2⟩:=(Hr2.o.below Hbr.o).at_ hlt
   have hm1:m<names.length:=by omega
   have hm2:m<texts.length:=by omega
   replace hc1:wo.cell? ⟨b1,o1+m,none⟩=some (.string ⟨names[m].toArray⟩):=by simpa [Af]using hc1
   replace hc2:wo.cell? ⟨b2,o2+m,none⟩=some (.string ⟨texts[m].toArray⟩):=by simpa [Af]using hc2
   have Hzp:=Aa (Tg names texts m hm1 hm2)
   generalize names[m]=x at *
   generalize texts[m]=y at *
   obtain⟨L,hL⟩:∃L,L=Fc (·.1) ((names.zip texts).take m):=⟨_,rfl⟩
   rw[<-hL]at hlL Hoa Hob
   obtain⟨La,hLa⟩:∃La,La=L.map (·.1):=⟨_,rfl⟩
   obtain⟨Lb,hLb⟩:∃Lb,Lb=L.map (·.2):=⟨_,rfl⟩
   rw[<-hL,<-hLa]at hra
   rw[<-hL,<-hLb]at hrb
   have hlLa:La.length=m:=by rw[hLa];simpa using hlL
   have hlLb:Lb.length=m:=by rw[hLb];simpa using hlL
   have HL:=Aa hL
   have HLa:=Aa hLa
   have HLb:=Aa hLb
   have HlL:=Aa hlL
   have Hra:=Aa hra
   have Hrb:=Aa hrb
   clear hL hLa hLb hlL hra hrb
   go_wp2_with fail
   go_loopw [9] (fun q wi=>∃k:Nat,q=.int .i64 k/\k<=m/\Hid (∀z∈L.take k,z.1<x)/\Hid (Below wo.heap.size wo wi)) (fun q _=>m - (intOf q).toNat)
   case atStart=>exact⟨0,rfl,Nat.zero_le _,by show ∀z∈_,_;simp,At _ _⟩
   case round=>
    obtain⟨k,rfl,hk,Hsm,Hbi⟩:=hrel
    have k1:(0:Int)<=(k:Int):=by omega
    obtain⟨wi,hwi⟩:∃wi,wi=wr:=⟨_,rfl⟩
    by_cases hkm:k<m
    ·have k2:(k:Int)<(m:Int):=by omega
     have hkL:k<L.length:=by have:=HlL.o;omega
     obtain⟨_,_,eq,_,hca0⟩:=(Hra.o.below Hbi.o).at_ hkm
     injection eq with eq
     injection eq with eq1 eq2 _
     subst eq1 eq2
     replace hca0:wr.cell? ⟨ga,k,none⟩=some (.string ⟨L[k].1.toArray⟩):=by simpa [Af,HLa.o]using hca0
     have hcx0:=(Hbi.o.cell (p:=⟨b1,o1+m,none⟩) hb1).trans hc1
     have l1:ga<wr.heap.size:=Nat.lt_of_lt_of_le hla.2 Hbi.o.size
     have l2:b1<wr.heap.size:=Nat.lt_of_lt_of_le hb1 Hbi.o.size
     have Hts:=Aa (Bn L k hkL)
     have Hlk:=Aa (show ¬L[k].1<x->¬(fun z:List UInt8 × List UInt8=>z.1) L[k]<(fun z:List UInt8 × List UInt8=>z.1) (x,y)from id)
     by_cases hz:L[k].1<x
     ·have t1:Op.bytesLess L[k].1 x=true:=by rw[bytesLess_eq];simpa using hz
      have Hs2:=Aa (show ∀z∈L.take (k+1),z.1<x from by
       intro z hz2
       rw[Hts.o]at hz2
       rcases List.mem_append.1 hz2 with hz2|hz2
       ·exact Hsm.o z hz2
       simp only[List.mem_singleton]at hz2;subst hz2;exact hz)
      clear hz
      generalize L[k].1=z at *
      go_wp2_with fail
      refine rgB ?_
      iterate 15 refine sq ?_
      refine dnB fun w6 HB=>?_
      have Hb6:=Aa (Hbi.o.trans (HB.o.mono Hbi.o.size))
      clear HB
      go_wp2_with fail
      go_roundw
      case rel=>exact⟨k+1,by go_num,by omega,Hs2.o,Hb6.o⟩
      case measure=>simp[intOf];omega
     have t1:Op.bytesLess L[k].1 x=false:=by rw[bytesLess_eq];simpa using hz
     have Hge:=Aa (Hlk.o hz)
     clear hz Hlk
     have Hkk:=Aa hkL
     generalize hzz:L[k].1=z at *
     clear hzz
     go_wp2_with fail
     refine rgB ?_
     iterate 15 refine sq ?_
     refine dnB fun w7 HB=>?_
     have Hbj:=Aa (Hbi.o.trans (HB.o.mono Hbi.o.size))
     clear HB hca0 hcx0 l1 l2 t1
     go_wp2_with fail
     have hins:Fc (·.1) ((names.zip texts).take (m+1))=L.take k++(x,y)::L.drop k:=by
      rw[Hzp.o,T6,<-HL.o]
      exact Vw (·.1) (x,y) L k (by have:=HlL.o;omega) Hsm.o (fun h=>Hge.o)
     have Hxa:=Aa (show (Fc (·.1) ((names.zip texts).take (m+1))).map (·.1)=La.take k++x::La.drop k by rw[hins,HLa.o];simp[List.map_take,List.map_drop])
     have Hxb:=Aa (show (Fc (·.1) ((names.zip texts).take (m+1))).map (·.2)=Lb.take k++y::Lb.drop k by rw[hins,HLb.o];simp[List.map_take,List.map_drop])
     clear hins
     have Hgar:=Aa (Hra.o.below Hbj.o)
     have hcx:=(Hbj.o.cell (p:=⟨b1,o1+m,none⟩) hb1).trans hc1
     have hlx:b1<w7.heap.size:=Nat.lt_of_lt_of_le hb1 Hbj.o.size
     have hkca:k<=ca:=by omega
     have hkcb:k<=cb:=by omega
     have hkma:k<=m:=hk
     refine rgF (fun l u W=>G0 w7 La k x (l 0) (l 4) (l 9) (l 10) (l 14) (l 15) (u 0) (u 4) (u 9) (u 10) (u 14) (u 15) W) (Fj w7) (fun _ _ _ h=>Gq h.bel) G0.start ?_
     refine Qf (fun _=>True) (by
      intro l u W hl hp hF hG hi K hK
      have h:G0 w7 La k x (l 0) (l 4) (l 9) (l 10) (l 14) (l 15) (u 0) (u 4) (u 9) (u 10) (u 14) (u 15) W:=hF.o
      rw[hl]at h
      have h4:=(hi.o 4 (by rfl)).1
      clear hp
      have Hh:=Aa (h.op0 h4)
      clear h h4 hi hG
      go_simp
      exact hK _ _ _ Ab Hh.o rfl) ?_
     refine sqI 15 ?_
     refine sq ?_
     refine sq ?_
     refine Qf (fun _=>True) (by
      intro l u W hl hp hF hG hi K hK
      have h:G0 w7 La k x (l 0) (l 4) (l 9) (l 10) (l 14) (l 15) (u 0) (u 4) (u 9) (u 10) (u 14) (u 15) W:=hF.o
      rw[hl]at h
      simp[Region.binds,D8]at hp
      obtain⟨b,e0,ho⟩:=h.s0 (by simp[hp]) rfl
      have hb:=ho.lt b rfl
      simp only[Region.wanted,if_true]
      refine Fk W (.tmp 35) (.tmp 38) 31 rfl w7.heap.size 9 (.string ⟨#[]⟩) 16 underlying31 Dt (by decide) b 0 0 (Af []) ?_ (some ⟨ga,0,none⟩) k ca (Af (La.take k)) ?_ ?_ (Ew _) ho (by unfold maxLen;omega) (by omega) h.bel.size ?_
      ·simp[hp,e0];rfl
      ·simp[hp];rfl
      ·have q:=(Hgar.o.below h.bel).sub 0 k (by omega)
       simpa [Af,List.map_take]using q
      intro g' c' w' ho' hg' hw'
      refine hK _ _ _ Ab ?_ rfl
      simp only[Nat.zero_add]at ho' ⊢
      exact h.op4 e0 hb.1 ho' hg' hw' (by simp[hp]) _ rfl) ?_
     refine sq ?_
     refine sq ?_
     refine sq ?_
     refine sq ?_
     refine Qf (fun _=>True) (by
      intro l u W hl hp hF hG hi K hK
      have h:G0 w7 La k x (l 0) (l 4) (l 9) (l 10) (l 14) (l 15) (u 0) (u 4) (u 9) (u 10) (u 14) (u 15) W:=hF.o
      rw[hl]at h
      have h10:=(hi.o 10 (by rfl)).1
      simp[Region.binds,D8]at hp
      have Hh:=Aa (h.op9 h10)
      clear h h10 hi hG
      go_simp
      exact hK _ _ _ Ab Hh.o (by first|rfl|(simp[Act.put,hp];done)|(simp[Act.put,hp];exact rfl))) ?_
     refine Qf (fun _=>True) (by
      intro l u W hl hp hF hG hi K hK
      have h:G0 w7 La k x (l 0) (l 4) (l 9) (l 10) (l 14) (l 15) (u 0) (u 4) (u 9) (u 10) (u 14) (u 15) W:=hF.o
      rw[hl]at h
      simp[Region.binds,D8]at hp
      obtain⟨b,c,e4,ho⟩:=h.s4 (by simp[hp]) rfl
      obtain⟨b9,e9,_,hb9,hc9,_,_⟩:=h.s9 (by simp[hp]) rfl
      have hb:=ho.lt b rfl
      simp only[Region.wanted,if_true]
      refine Fk W (.tmp 39) (.tmp 44) 31 rfl w7.heap.size 9 (.string ⟨#[]⟩) 16 underlying31 Dt (by decide) b k c (Af (La.take k)) ?_ (some ⟨b9,0,none⟩) 1 1 [.string ⟨x.toArray⟩] ?_ ?_ (by simp[Value.oneCell']) ho (by unfold maxLen;omega) (by omega) h.bel.size ?_
      ·simp[hp,e4];rfl
      ·simp[hp,e9];rfl
      ·refine⟨rfl,by decide,fun _=>⟨b9,0,rfl,hb9,fun j u hj=>?_⟩⟩
       match j,hj with
       |0,hj=>simp at hj;subst hj;exact hc9
      intro g' c' w' ho' hg' _
      refine hK _ _ _ Ab ?_ rfl
      exact h.op10 (by simp[hp]) (by simp[hp]) hb.1 (by rw[show Af (La.take k)++[.string ⟨x.toArray⟩]=Af (La.take k++[x])by simp[Af]]at ho';exact ho') hg' _ rfl) ?_
     refine sqI 15 ?_
     refine sq ?_
     refine sq ?_
     refine Qf (fun _=>True) (by
      intro l u W hl hp hF hG hi K hK
      have h:G0 w7 La k x (l 0) (l 4) (l 9) (l 10) (l 14) (l 15) (u 0) (u 4) (u 9) (u 10) (u 14) (u 15) W:=hF.o
      rw[hl]at h
      simp[Region.binds,D8]at hp
      obtain⟨b,c,e10,ho⟩:=h.s10 (by simp[hp]) rfl
      have hb:=ho.lt b rfl
      simp only[Region.wanted,if_true]
      refine Fk W (.tmp 45) (.tmp 48) 31 rfl w7.heap.size 9 (.string ⟨#[]⟩) 16 underlying31 Dt (by decide) b (k+1) c (Af (La.take k++[x])) ?_ (if ca=k then some ⟨ga,0,none⟩else some ⟨ga,k,none⟩) (m - k) (ca - k) (Af (La.drop k)) ?_ ?_ (Ew _) ho (by unfold maxLen;omega) (by omega) h.bel.size ?_
      ·simp[hp,e10];rfl
      ·simp[hp];rfl
      ·by_cases hck:ca=k
       ·have e0:m - k=0:=by omega
        rw[e0,show La.drop k=[]from List.drop_eq_nil_of_le (by omega)]
        exact⟨rfl,Nat.zero_le _,fun h=>absurd h (by simp)⟩
       rw[if_neg hck]
       have q:=(Hgar.o.below h.bel).sub k (m - k) (by omega)
       rw[Nat.zero_add]at q
       rw[show Af (La.drop k)=((Af La).drop k).take (m - k)by rw[show (Af La).drop k=Af (La.drop k)by simp[Af,List.map_drop],List.take_of_length_le (by rw[Gy,List.length_drop];omega)]]
       exact q
      intro g' c' w' ho' hg' _
      refine hK _ _ _ Ab ?_ rfl
      rw[show Af (La.take k++[x])++Af (La.drop k)=Af (La.take k++x::La.drop k)by simp[Af],show k+1+(m - k)=La.length+1 by omega]at ho'
      rw[show k+1+(m - k)=La.length+1 by omega]
      exact h.op14 (by simp[hp]) hb.1 ho' hg' _ rfl) ?_
     refine Qf (fun _=>True) (by
      intro l u W hl hp hF hG hi K hK
      have h:G0 w7 La k x (l 0) (l 4) (l 9) (l 10) (l 14) (l 15) (u 0) (u 4) (u 9) (u 10) (u 14) (u 15) W:=hF.o
      simp[Region.binds,D8]at hp
      have h15:=hl
      clear hG hi
      have HF:=Aa h
      clear h
      go_simp
      refine hK (u 14) _ _ Ab ?_ (by simp[Act.put,hp])
      have h:=HF.o
      exact⟨h.bel,h.d10,h.d14,fun _=>by simp[hp],h.s0,h.s4,h.s9,h.s10,h.s14,fun _=>rfl⟩) ?_
     intro l u w8 hl _ hR
     have hR:G0 w7 La k x (l 0) (l 4) (l 9) (l 10) (l 14) (l 15) (u 0) (u 4) (u 9) (u 10) (u 14) (u 15) w8:=hR
     obtain⟨g7,c7,e14,ho7⟩:=hR.s14 (hl 14 (by decide))
     rw[hlLa]at e14 ho7
     have e15:=(hR.s15 (hl 15 (by decide))).trans e14
     have hb7:=hR.bel
     simp only[e15]
     clear hl hR e14 e15
     have Hb7:=Aa (Hbj.o.trans (hb7.mono Hbj.o.size))
     have Ho7:=Aa ho7
     have hl78:=hb7.size
     have Hgbr:=Aa (Hrb.o.below Hb7.o)
     have hcy:=(Hb7.o.cell (p:=⟨b2,o2+m,none⟩) hb2).trans hc2
     have hly:b2<w8.heap.size:=Nat.lt_of_lt_of_le hb2 Hb7.o.size
     clear hb7 ho7 hcx hlx Hgar
     go_wp2_with fail
     refine rgF (fun l u W=>G0 w8 Lb k y (l 0) (l 4) (l 9) (l 10) (l 14) (l 15) (u 0) (u 4) (u 9) (u 10) (u 14) (u 15) W) (Fj w8) (fun _ _ _ h=>Gq h.bel) G0.start ?_
     refine Qf (fun _=>True) (by
      intro l u W hl hp hF hG hi K hK
      have h:G0 w8 Lb k y (l 0) (l 4) (l 9) (l 10) (l 14) (l 15) (u 0) (u 4) (u 9) (u 10) (u 14) (u 15) W:=hF.o
      rw[hl]at h
      have h4:=(hi.o 4 (by rfl)).1
      clear hp
      have Hh:=Aa (h.op0 h4)
      clear h h4 hi hG
      go_simp
      exact hK _ _ _ Ab Hh.o rfl) ?_
     refine sqI 15 ?_
     refine sq ?_
     refine sq ?_
     refine Qf (fun _=>True) (by
      intro l u W hl hp hF hG hi K hK
      have h:G0 w8 Lb k y (l 0) (l 4) (l 9) (l 10) (l 14) (l 15) (u 0) (u 4) (u 9) (u 10) (u 14) (u 15) W:=hF.o
      rw[hl]at h
      simp[Region.binds,D8]at hp
      obtain⟨b,e0,ho⟩:=h.s0 (by simp[hp]) rfl
      have hb:=ho.lt b rfl
      simp only[Region.wanted,if_true]
      refine Fk W (.tmp 50) (.tmp 53) 31 rfl w8.heap.size 9 (.string ⟨#[]⟩) 16 underlying31 Dt (by decide) b 0 0 (Af []) ?_ (some ⟨gb,0,none⟩) k cb (Af (Lb.take k)) ?_ ?_ (Ew _) ho (by unfold maxLen;omega) (by omega) h.bel.size ?_
      ·simp[hp,e0];rfl
      ·simp[hp];rfl
      ·have q:=(Hgbr.o.below h.bel).sub 0 k (by omega)
       simpa [Af,List.map_take]using q
      intro g' c' w' ho' hg' hw'
      refine hK _ _ _ Ab ?_ rfl
      simp only[Nat.zero_add]at ho' ⊢
      exact h.op4 e0 hb.1 ho' hg' hw' (by simp[hp]) _ rfl) ?_
     refine sq ?_
     refine sq ?_
     refine sq ?_
     refine sq ?_
     refine Qf (fun _=>True) (by
      intro l u W hl hp hF hG hi K hK
      have h:G0 w8 Lb k y (l 0) (l 4) (l 9) (l 10) (l 14) (l 15) (u 0) (u 4) (u 9) (u 10) (u 14) (u 15) W:=hF.o
      rw[hl]at h
      have h10:=(hi.o 10 (by rfl)).1
      simp[Region.binds,D8]at hp
      have Hh:=Aa (h.op9 h10)
      clear h h10 hi hG
      go_simp
      exact hK _ _ _ Ab Hh.o (by first|rfl|(simp[Act.put,hp];done)|(simp[Act.put,hp];exact rfl))) ?_
     refine Qf (fun _=>True) (by
      intro l u W hl hp hF hG hi K hK
      have h:G0 w8 Lb k y (l 0) (l 4) (l 9) (l 10) (l 14) (l 15) (u 0) (u 4) (u 9) (u 10) (u 14) (u 15) W:=hF.o
      rw[hl]at h
      simp[Region.binds,D8]at hp
      obtain⟨b,c,e4,ho⟩:=h.s4 (by simp[hp]) rfl
      obtain⟨b9,e9,_,hb9,hc9,_,_⟩:=h.s9 (by simp[hp]) rfl
      have hb:=ho.lt b rfl
      simp only[Region.wanted,if_true]
      refine Fk W (.tmp 54) (.tmp 59) 31 rfl w8.heap.size 9 (.string ⟨#[]⟩) 16 underlying31 Dt (by decide) b k c (Af (Lb.take k)) ?_ (some ⟨b9,0,none⟩) 1 1 [.string ⟨y.toArray⟩] ?_ ?_ (by simp[Value.oneCell']) ho (by unfold maxLen;omega) (by omega) h.bel.size ?_
      ·simp[hp,e4];rfl
      ·simp[hp,e9];rfl
      ·refine⟨rfl,by decide,fun _=>⟨b9,0,rfl,hb9,fun j u hj=>?_⟩⟩
       match j,hj with
       |0,hj=>simp at hj;subst hj;exact hc9
      intro g' c' w' ho' hg' _
      refine hK _ _ _ Ab ?_ rfl
      exact h.op10 (by simp[hp]) (by simp[hp]) hb.1 (by rw[show Af (Lb.take k)++[.string ⟨y.toArray⟩]=Af (Lb.take k++[y])by simp[Af]]at ho';exact ho') hg' _ rfl) ?_
     refine sqI 15 ?_
     refine sq ?_
     refine sq ?_
     refine Qf (fun _=>True) (by
      intro l u W hl hp hF hG hi K hK
      have h:G0 w8 Lb k y (l 0) (l 4) (l 9) (l 10) (l 14) (l 15) (u 0) (u 4) (u 9) (u 10) (u 14) (u 15) W:=hF.o
      rw[hl]at h
      simp[Region.binds,D8]at hp
      obtain⟨b,c,e10,ho⟩:=h.s10 (by simp[hp]) rfl
      have hb:=ho.lt b rfl
      simp only[Region.wanted,if_true]
      refine Fk W (.tmp 60) (.tmp 63) 31 rfl w8.heap.size 9 (.string ⟨#[]⟩) 16 underlying31 Dt (by decide) b (k+1) c (Af (Lb.take k++[y])) ?_ (if cb=k then some ⟨gb,0,none⟩else some ⟨gb,k,none⟩) (m - k) (cb - k) (Af (Lb.drop k)) ?_ ?_ (Ew _) ho (by unfold maxLen;omega) (by omega) h.bel.size ?_
      ·simp[hp,e10];rfl
      ·simp[hp];rfl
      ·by_cases hck:cb=k
       ·have e0:m - k=0:=by omega
        rw[e0,show Lb.drop k=[]from List.drop_eq_nil_of_le (by omega)]
        exact⟨rfl,Nat.zero_le _,fun h=>absurd h (by simp)⟩
       rw[if_neg hck]
       have q:=(Hgbr.o.below h.bel).sub k (m - k) (by omega)
       rw[Nat.zero_add]at q
       rw[show Af (Lb.drop k)=((Af Lb).drop k).take (m - k)by rw[show (Af Lb).drop k=Af (Lb.drop k)by simp[Af,List.map_drop],List.take_of_length_le (by rw[Gy,List.length_drop];omega)]]
       exact q
      intro g' c' w' ho' hg' _
      refine hK _ _ _ Ab ?_ rfl
      rw[show Af (Lb.take k++[y])++Af (Lb.drop k)=Af (Lb.take k++y::Lb.drop k)by simp[Af],show k+1+(m - k)=Lb.length+1 by omega]at ho'
      rw[show k+1+(m - k)=Lb.length+1 by omega]
      exact h.op14 (by simp[hp]) hb.1 ho' hg' _ rfl) ?_
     refine Qf (fun _=>True) (by
      intro l u W hl hp hF hG hi K hK
      have h:G0 w8 Lb k y (l 0) (l 4) (l 9) (l 10) (l 14) (l 15) (u 0) (u 4) (u 9) (u 10) (u 14) (u 15) W:=hF.o
      simp[Region.binds,D8]at hp
      have h15:=hl
      clear hG hi
      have HF:=Aa h
      clear h
      go_simp
      refine hK (u 14) _ _ Ab ?_ (by simp[Act.put,hp])
      have h:=HF.o
      exact⟨h.bel,h.d10,h.d14,fun _=>by simp[hp],h.s0,h.s4,h.s9,h.s10,h.s14,fun _=>rfl⟩) ?_
     intro l u w9 hl _ hR
     have hR:G0 w8 Lb k y (l 0) (l 4) (l 9) (l 10) (l 14) (l 15) (u 0) (u 4) (u 9) (u 10) (u 14) (u 15) w9:=hR
     obtain⟨g8,c8,e14,ho8⟩:=hR.s14 (hl 14 (by decide))
     rw[hlLb]at e14 ho8
     have e15:=(hR.s15 (hl 15 (by decide))).trans e14
     have hb8:=hR.bel
     simp only[e15]
     clear hl hR e14 e15
     have h77:=Ho7.o.lt g7 rfl
     have h88:=ho8.lt g8 rfl
     have Hn2:=Aa (show g7≠g8 by omega)
     have Hoa2:=Aa (show Kt w.heap.size w9 g7 (m+1) c7 ((Fc (·.1) ((names.zip texts).take (m+1))).map (·.1))by rw[Hxa.o];exact Re (Be Ho7.o hb8) (by have:=Hbr.o.size;have:=Hbj.o.size;omega))
     have Hob2:=Aa (show Kt w.heap.size w9 g8 (m+1) c8 ((Fc (·.1) ((names.zip texts).take (m+1))).map (·.2))by rw[Hxb.o];exact Re ho8 (by have:=Hbr.o.size;have:=Hbj.o.size;omega))
     have Hb9:=Aa (Hbr.o.trans ((Hb7.o.trans (hb8.mono Hb7.o.size)).mono Hbr.o.size))
     clear hb8 ho8 h77 h88 hcy hly
     go_wp2_with fail
     go_roundw
     case rel=>exact⟨m+1,g7,c7,g8,c8,by go_num,rfl,rfl,by omega,Hn2.o,Hoa2.o,Hob2.o,Hb9.o⟩
     case measure=>simp[intOf];omega
    ·have hkm2:k=m:=by omega
     have k2:¬((k:Int)<(m:Int)):=by omega
     have Hkm2:=Aa hkm2
     clear hkm2
     go_wp2_with fail
     refine rgB ?_
     iterate 15 refine sq ?_
     refine dnB fun w7 HB=>?_
     have Hbj:=Aa (Hbi.o.trans (HB.o.mono Hbi.o.size))
     clear HB
     go_wp2_with fail
     have hins:Fc (·.1) ((names.zip texts).take (m+1))=L.take k++(x,y)::L.drop k:=by
      rw[Hzp.o,T6,<-HL.o]
      exact Vw (·.1) (x,y) L k (by have:=HlL.o;omega) Hsm.o (fun h=>absurd h (by have:=HlL.o;omega))
     have Hxa:=Aa (show (Fc (·.1) ((names.zip texts).take (m+1))).map (·.1)=La.take k++x::La.drop k by rw[hins,HLa.o];simp[List.map_take,List.map_drop])
     have Hxb:=Aa (show (Fc (·.1) ((names.zip texts).take (m+1))).map (·.2)=Lb.take k++y::Lb.drop k by rw[hins,HLb.o];simp[List.map_take,List.map_drop])
     clear hins
     have Hgar:=Aa (Hra.o.below Hbj.o)
     have hcx:=(Hbj.o.cell (p:=⟨b1,o1+m,none⟩) hb1).trans hc1
     have hlx:b1<w7.heap.size:=Nat.lt_of_lt_of_le hb1 Hbj.o.size
     have hkca:k<=ca:=by omega
     have hkcb:k<=cb:=by omega
     have hkma:k<=m:=hk
     refine rgF (fun l u W=>G0 w7 La k x (l 0) (l 4) (l 9) (l 10) (l 14) (l 15) (u 0) (u 4) (u 9) (u 10) (u 14) (u 15) W) (Fj w7) (fun _ _ _ h=>Gq h.bel) G0.start ?_
     refine Qf (fun _=>True) (by
      intro l u W hl hp hF hG hi K hK
      have h:G0 w7 La k x (l 0) (l 4) (l 9) (l 10) (l 14) (l 15) (u 0) (u 4) (u 9) (u 10) (u 14) (u 15) W:=hF.o
      rw[hl]at h
      have h4:=(hi.o 4 (by rfl)).1
      clear hp
      have Hh:=Aa (h.op0 h4)
      clear h h4 hi hG
      go_simp
      exact hK _ _ _ Ab Hh.o rfl) ?_
     refine sqI 15 ?_
     refine sq ?_
     refine sq ?_
     refine Qf (fun _=>True) (by
      intro l u W hl hp hF hG hi K hK
      have h:G0 w7 La k x (l 0) (l 4) (l 9) (l 10) (l 14) (l 15) (u 0) (u 4) (u 9) (u 10) (u 14) (u 15) W:=hF.o
      rw[hl]at h
      simp[Region.binds,D8]at hp
      obtain⟨b,e0,ho⟩:=h.s0 (by simp[hp]) rfl
      have hb:=ho.lt b rfl
      simp only[Region.wanted,if_true]
      refine Fk W (.tmp 35) (.tmp 38) 31 rfl w7.heap.size 9 (.string ⟨#[]⟩) 16 underlying31 Dt (by decide) b 0 0 (Af []) ?_ (some ⟨ga,0,none⟩) k ca (Af (La.take k)) ?_ ?_ (Ew _) ho (by unfold maxLen;omega) (by omega) h.bel.size ?_
      ·simp[hp,e0];rfl
      ·simp[hp];rfl
      ·have q:=(Hgar.o.below h.bel).sub 0 k (by omega)
       simpa [Af,List.map_take]using q
      intro g' c' w' ho' hg' hw'
      refine hK _ _ _ Ab ?_ rfl
      simp only[Nat.zero_add]at ho' ⊢
      exact h.op4 e0 hb.1 ho' hg' hw' (by simp[hp]) _ rfl) ?_
     refine sq ?_
     refine sq ?_
     refine sq ?_
     refine sq ?_
     refine Qf (fun _=>True) (by
      intro l u W hl hp hF hG hi K hK
      have h:G0 w7 La k x (l 0) (l 4) (l 9) (l 10) (l 14) (l 15) (u 0) (u 4) (u 9) (u 10) (u 14) (u 15) W:=hF.o
      rw[hl]at h
      have h10:=(hi.o 10 (by rfl)).1
      simp[Region.binds,D8]at hp
      have Hh:=Aa (h.op9 h10)
      clear h h10 hi hG
      go_simp
      exact hK _ _ _ Ab Hh.o (by first|rfl|(simp[Act.put,hp];done)|(simp[Act.put,hp];exact rfl))) ?_
     refine Qf (fun _=>True) (by
      intro l u W hl hp hF hG hi K hK
      have h:G0 w7 La k x (l 0) (l 4) (l 9) (l 10) (l 14) (l 15) (u 0) (u 4) (u 9) (u 10) (u 14) (u 15) W:=hF.o
      rw[hl]at h
      simp[Region.binds,D8]at hp
      obtain⟨b,c,e4,ho⟩:=h.s4 (by simp[hp]) rfl
      obtain⟨b9,e9,_,hb9,hc9,_,_⟩:=h.s9 (by simp[hp]) rfl
      have hb:=ho.lt b rfl
      simp only[Region.wanted,if_true]
      refine Fk W (.tmp 39) (.tmp 44) 31 rfl w7.heap.size 9 (.string ⟨#[]⟩) 16 underlying31 Dt (by decide) b k c (Af (La.take k)) ?_ (some ⟨b9,0,none⟩) 1 1 [.string ⟨x.toArray⟩] ?_ ?_ (by simp[Value.oneCell']) ho (by unfold maxLen;omega) (by omega) h.bel.size ?_
      ·simp[hp,e4];rfl
      ·simp[hp,e9];rfl
      ·refine⟨rfl,by decide,fun _=>⟨b9,0,rfl,hb9,fun j u hj=>?_⟩⟩
       match j,hj with
       |0,hj=>simp at hj;subst hj;exact hc9
      intro g' c' w' ho' hg' _
      refine hK _ _ _ Ab ?_ rfl
      exact h.op10 (by simp[hp]) (by simp[hp]) hb.1 (by rw[show Af (La.take k)++[.string ⟨x.toArray⟩]=Af (La.take k++[x])by simp[Af]]at ho';exact ho') hg' _ rfl) ?_
     refine sqI 15 ?_
     refine sq ?_
     refine sq ?_
     refine Qf (fun _=>True) (by
      intro l u W hl hp hF hG hi K hK
      have h:G0 w7 La k x (l 0) (l 4) (l 9) (l 10) (l 14) (l 15) (u 0) (u 4) (u 9) (u 10) (u 14) (u 15) W:=hF.o
      rw[hl]at h
      simp[Region.binds,D8]at hp
      obtain⟨b,c,e10,ho⟩:=h.s10 (by simp[hp]) rfl
      have hb:=ho.lt b rfl
      simp only[Region.wanted,if_true]
      refine Fk W (.tmp 45) (.tmp 48) 31 rfl w7.heap.size 9 (.string ⟨#[]⟩) 16 underlying31 Dt (by decide) b (k+1) c (Af (La.take k++[x])) ?_ (if ca=k then some ⟨ga,0,none⟩else some ⟨ga,k,none⟩) (m - k) (ca - k) (Af (La.drop k)) ?_ ?_ (Ew _) ho (by unfold maxLen;omega) (by omega) h.bel.size ?_
      ·simp[hp,e10];rfl
      ·simp[hp];rfl
      ·by_cases hck:ca=k
       ·have e0:m - k=0:=by omega
        rw[e0,show La.drop k=[]from List.drop_eq_nil_of_le (by omega)]
        exact⟨rfl,Nat.zero_le _,fun h=>absurd h (by simp)⟩
       rw[if_neg hck]
       have q:=(Hgar.o.below h.bel).sub k (m - k) (by omega)
       rw[Nat.zero_add]at q
       rw[show Af (La.drop k)=((Af La).drop k).take (m - k)by rw[show (Af La).drop k=Af (La.drop k)by simp[Af,List.map_drop],List.take_of_length_le (by rw[Gy,List.length_drop];omega)]]
       exact q
      intro g' c' w' ho' hg' _
      refine hK _ _ _ Ab ?_ rfl
      rw[show Af (La.take k++[x])++Af (La.drop k)=Af (La.take k++x::La.drop k)by simp[Af],show k+1+(m - k)=La.length+1 by omega]at ho'
      rw[show k+1+(m - k)=La.length+1 by omega]
      exact h.op14 (by simp[hp]) hb.1 ho' hg' _ rfl) ?_
     refine Qf (fun _=>True) (by
      intro l u W hl hp hF hG hi K hK
      have h:G0 w7 La k x (l 0) (l 4) (l 9) (l 10) (l 14) (l 15) (u 0) (u 4) (u 9) (u 10) (u 14) (u 15) W:=hF.o
      simp[Region.binds,D8]at hp
      have h15:=hl
      clear hG hi
      have HF:=Aa h
      clear h
      go_simp
      refine hK (u 14) _ _ Ab ?_ (by simp[Act.put,hp])
      have h:=HF.o
      exact⟨h.bel,h.d10,h.d14,fun _=>by simp[hp],h.s0,h.s4,h.s9,h.s10,h.s14,fun _=>rfl⟩) ?_
     intro l u w8 hl _ hR
     have hR:G0 w7 La k x (l 0) (l 4) (l 9) (l 10) (l 14) (l 15) (u 0) (u 4) (u 9) (u 10) (u 14) (u 15) w8:=hR
     obtain⟨g7,c7,e14,ho7⟩:=hR.s14 (hl 14 (by decide))
     rw[hlLa]at e14 ho7
     have e15:=(hR.s15 (hl 15 (by decide))).trans e14
     have hb7:=hR.bel
     simp only[e15]
     clear hl hR e14 e15
     have Hb7:=Aa (Hbj.o.trans (hb7.mono Hbj.o.size))
     have Ho7:=Aa ho7
     have hl78:=hb7.size
     have Hgbr:=Aa (Hrb.o.below Hb7.o)
     have hcy:=(Hb7.o.cell (p:=⟨b2,o2+m,none⟩) hb2).trans hc2
     have hly:b2<w8.heap.size:=Nat.lt_of_lt_of_le hb2 Hb7.o.size
     clear hb7 ho7 hcx hlx Hgar
     go_wp2_with fail
     refine rgF (fun l u W=>G0 w8 Lb k y (l 0) (l 4) (l 9) (l 10) (l 14) (l 15) (u 0) (u 4) (u 9) (u 10) (u 14) (u 15) W) (Fj w8) (fun _ _ _ h=>Gq h.bel) G0.start ?_
     refine Qf (fun _=>True) (by
      intro l u W hl hp hF hG hi K hK
      have h:G0 w8 Lb k y (l 0) (l 4) (l 9) (l 10) (l 14) (l 15) (u 0) (u 4) (u 9) (u 10) (u 14) (u 15) W:=hF.o
      rw[hl]at h
      have h4:=(hi.o 4 (by rfl)).1
      clear hp
      have Hh:=Aa (h.op0 h4)
      clear h h4 hi hG
      go_simp
      exact hK _ _ _ Ab Hh.o rfl) ?_
     refine sqI 15 ?_
     refine sq ?_
     refine sq ?_
     refine Qf (fun _=>True) (by
      intro l u W hl hp hF hG hi K hK
      have h:G0 w8 Lb k y (l 0) (l 4) (l 9) (l 10) (l 14) (l 15) (u 0) (u 4) (u 9) (u 10) (u 14) (u 15) W:=hF.o
      rw[hl]at h
      simp[Region.binds,D8]at hp
      obtain⟨b,e0,ho⟩:=h.s0 (by simp[hp]) rfl
      have hb:=ho.lt b rfl
      simp only[Region.wanted,if_true]
      refine Fk W (.tmp 50) (.tmp 53) 31 rfl w8.heap.size 9 (.string ⟨#[]⟩) 16 underlying31 Dt (by decide) b 0 0 (Af []) ?_ (some ⟨gb,0,none⟩) k cb (Af (Lb.take k)) ?_ ?_ (Ew _) ho (by unfold maxLen;omega) (by omega) h.bel.size ?_
      ·simp[hp,e0];rfl
      ·simp[hp];rfl
      ·have q:=(Hgbr.o.below h.bel).sub 0 k (by omega)
       simpa [Af,List.map_take]using q
      intro g' c' w' ho' hg' hw'
      refine hK _ _ _ Ab ?_ rfl
      simp only[Nat.zero_add]at ho' ⊢
      exact h.op4 e0 hb.1 ho' hg' hw' (by simp[hp]) _ rfl) ?_
     refine sq ?_
     refine sq ?_
     refine sq ?_
     refine sq ?_
     refine Qf (fun _=>True) (by
      intro l u W hl hp hF hG hi K hK
      have h:G0 w8 Lb k y (l 0) (l 4) (l 9) (l 10) (l 14) (l 15) (u 0) (u 4) (u 9) (u 10) (u 14) (u 15) W:=hF.o
      rw[hl]at h
      have h10:=(hi.o 10 (by rfl)).1
      simp[Region.binds,D8]at hp
      have Hh:=Aa (h.op9 h10)
      clear h h10 hi hG
      go_simp
      exact hK _ _ _ Ab Hh.o (by first|rfl|(simp[Act.put,hp];done)|(simp[Act.put,hp];exact rfl))) ?_
     refine Qf (fun _=>True) (by
      intro l u W hl hp hF hG hi K hK
      have h:G0 w8 Lb k y (l 0) (l 4) (l 9) (l 10) (l 14) (l 15) (u 0) (u 4) (u 9) (u 10) (u 14) (u 15) W:=hF.o
      rw[hl]at h
      simp[Region.binds,D8]at hp
      obtain⟨b,c,e4,ho⟩:=h.s4 (by simp[hp]) rfl
      obtain⟨b9,e9,_,hb9,hc9,_,_⟩:=h.s9 (by simp[hp]) rfl
      have hb:=ho.lt b rfl
      simp only[Region.wanted,if_true]
      refine Fk W (.tmp 54) (.tmp 59) 31 rfl w8.heap.size 9 (.string ⟨#[]⟩) 16 underlying31 Dt (by decide) b k c (Af (Lb.take k)) ?_ (some ⟨b9,0,none⟩) 1 1 [.string ⟨y.toArray⟩] ?_ ?_ (by simp[Value.oneCell']) ho (by unfold maxLen;omega) (by omega) h.bel.size ?_
      ·simp[hp,e4];rfl
      ·simp[hp,e9];rfl
      ·refine⟨rfl,by decide,fun _=>⟨b9,0,rfl,hb9,fun j u hj=>?_⟩⟩
       match j,hj with
       |0,hj=>simp at hj;subst hj;exact hc9
      intro g' c' w' ho' hg' _
      refine hK _ _ _ Ab ?_ rfl
      exact h.op10 (by simp[hp]) (by simp[hp]) hb.1 (by rw[show Af (Lb.take k)++[.string ⟨y.toArray⟩]=Af (Lb.take k++[y])by simp[Af]]at ho';exact ho') hg' _ rfl) ?_
     refine sqI 15 ?_
     refine sq ?_
     refine sq ?_
     refine Qf (fun _=>True) (by
      intro l u W hl hp hF hG hi K hK
      have h:G0 w8 Lb k y (l 0) (l 4) (l 9) (l 10) (l 14) (l 15) (u 0) (u 4) (u 9) (u 10) (u 14) (u 15) W:=hF.o
      rw[hl]at h
      simp[Region.binds,D8]at hp
      obtain⟨b,c,e10,ho⟩:=h.s10 (by simp[hp]) rfl
      have hb:=ho.lt b rfl
      simp only[Region.wanted,if_true]
      refine Fk W (.tmp 60) (.tmp 63) 31 rfl w8.heap.size 9 (.string ⟨#[]⟩) 16 underlying31 Dt (by decide) b (k+1) c (Af (Lb.take k++[y])) ?_ (if cb=k then some ⟨gb,0,none⟩else some ⟨gb,k,none⟩) (m - k) (cb - k) (Af (Lb.drop k)) ?_ ?_ (Ew _) ho (by unfold maxLen;omega) (by omega) h.bel.size ?_
      ·simp[hp,e10];rfl
      ·simp[hp];rfl
      ·by_cases hck:cb=k
       ·have e0:m - k=0:=by omega
        rw[e0,show Lb.drop k=[]from List.drop_eq_nil_of_le (by omega)]
        exact⟨rfl,Nat.zero_le _,fun h=>absurd h (by simp)⟩
       rw[if_neg hck]
       have q:=(Hgbr.o.below h.bel).sub k (m - k) (by omega)
       rw[Nat.zero_add]at q
       rw[show Af (Lb.drop k)=((Af Lb).drop k).take (m - k)by rw[show (Af Lb).drop k=Af (Lb.drop k)by simp[Af,List.map_drop],List.take_of_length_le (by rw[Gy,List.length_drop];omega)]]
       exact q
      intro g' c' w' ho' hg' _
      refine hK _ _ _ Ab ?_ rfl
      rw[show Af (Lb.take k++[y])++Af (Lb.drop k)=Af (Lb.take k++y::Lb.drop k)by simp[Af],show k+1+(m - k)=Lb.length+1 by omega]at ho'
      rw[show k+1+(m - k)=Lb.length+1 by omega]
      exact h.op14 (by simp[hp]) hb.1 ho' hg' _ rfl) ?_
     refine Qf (fun _=>True) (by
      intro l u W hl hp hF hG hi K hK
      have h:G0 w8 Lb k y (l 0) (l 4) (l 9) (l 10) (l 14) (l 15) (u 0) (u 4) (u 9) (u 10) (u 14) (u 15) W:=hF.o
      simp[Region.binds,D8]at hp
      have h15:=hl
      clear hG hi
      have HF:=Aa h
      clear h
      go_simp
      refine hK (u 14) _ _ Ab ?_ (by simp[Act.put,hp])
      have h:=HF.o
      exact⟨h.bel,h.d10,h.d14,fun _=>by simp[hp],h.s0,h.s4,h.s9,h.s10,h.s14,fun _=>rfl⟩) ?_
     intro l u w9 hl _ hR
     have hR:G0 w8 Lb k y (l 0) (l 4) (l 9) (l 10) (l 14) (l 15) (u 0) (u 4) (u 9) (u 10) (u 14) (u 15) w9:=hR
     obtain⟨g8,c8,e14,ho8⟩:=hR.s14 (hl 14 (by decide))
     rw[hlLb]at e14 ho8
     have e15:=(hR.s15 (hl 15 (by decide))).trans e14
     have hb8:=hR.bel
     simp only[e15]
     clear hl hR e14 e15
     have h77:=Ho7.o.lt g7 rfl
     have h88:=ho8.lt g8 rfl
     have Hn2:=Aa (show g7≠g8 by omega)
     have Hoa2:=Aa (show Kt w.heap.size w9 g7 (m+1) c7 ((Fc (·.1) ((names.zip texts).take (m+1))).map (·.1))by rw[Hxa.o];exact Re (Be Ho7.o hb8) (by have:=Hbr.o.size;have:=Hbj.o.size;omega))
     have Hob2:=Aa (show Kt w.heap.size w9 g8 (m+1) c8 ((Fc (·.1) ((names.zip texts).take (m+1))).map (·.2))by rw[Hxb.o];exact Re ho8 (by have:=Hbr.o.size;have:=Hbj.o.size;omega))
     have Hb9:=Aa (Hbr.o.trans ((Hb7.o.trans (hb8.mono Hb7.o.size)).mono Hbr.o.size))
     clear hb8 ho8 h77 h88 hcy hly
     go_wp2_with fail
     go_roundw
     case rel=>exact⟨m+1,g7,c7,g8,c8,by go_num,rfl,rfl,by omega,Hn2.o,Hoa2.o,Hob2.o,Hb9.o⟩
     case measure=>simp[intOf];omega
  ·obtain rfl:m=n:=by omega
   have ht:(names.zip texts).take m=names.zip texts:=List.take_of_length_le (by simp;omega)
   rw[ht]at Hoa Hob
   go_wp2_with fail
   go_ret2
   exact⟨ga,ca,gb,cb,rfl,Hoa.o,Hob.o,Hne.o,Hbr.o⟩
theorem S7(c:UInt8)(p:List UInt8):∀(l:List (List UInt8)),Ap c (l++[p])=if l=[]then p else Ap c l++c::p
 |[]=>rfl
 |[q]=>rfl
 |q::r::l=>by
  have ih:=S7 c p (r::l)
  rw[if_neg (by simp)]at ih ⊢
  rw[List.cons_append,Ce c q (by simp),ih,Ce c q (by simp)]
  simp
theorem Tk(c:UInt8)(m:Nat):∀(l:List (List UInt8)),(∀p∈l,p.length<=m)->(Ap c l).length<=l.length*(m+1)
 |[],_=>by simp[Ap]
 |[q],h=>by have:=h q (by simp);simp[Ap];omega
 |q::r::l,h=>by
  have h1:=h q (by simp)
  have h2:=Tk c m (r::l) (fun p hp=>h p (by simp[hp]))
  rw[Ce c q (by simp),List.length_append,List.length_cons,List.length_cons,Nat.add_mul]
  omega
theorem Qbz(A:Option Addr)(c:Nat)(ps:List (List UInt8))(w:World)(hr:Bl w A ps.length (Af ps))(hl:ps.length<=100)(hp:∀p∈ps,p.length<=10000):
  Calls prog 59 #[.slice A ps.length c] w fun e w'=>e=.returned (.string ⟨(Ap 44 ps).toArray⟩)/\w=w':=by
 have Hr:=Aa hr
 have Hp:=Aa hp
 clear hr hp
 go_enter func59,ntmps59
 go_wp2_with fail
 go_loop [4,3] (fun i s=>∃k:Nat,i=.int .i64 k/\k<=ps.length/\s=.string ⟨(Ap 44 (ps.take k)).toArray⟩) (fun i _=>ps.length - (intOf i).toNat)
 case atStart=>exact⟨0,rfl,Nat.zero_le _,rfl⟩
 case round=>
  obtain⟨k,rfl,hk,rfl⟩:=hrel
  have k1:(0:Int)<=(k:Int):=by omega
  have hjl:=Tk 44 10000 (ps.take k) (fun p hp=>Hp.o p (List.mem_of_mem_take hp))
  rw[List.length_take,Nat.min_eq_left hk]at hjl
  by_cases hlt:k<ps.length
  ·have k2:(k:Int)<(ps.length:Int):=by omega
   obtain⟨b,off,rfl,hb,hc⟩:=Hr.o.at_ hlt
   have c0:w.cell? ⟨b,off+k,none⟩=some (.string ⟨ps[k].toArray⟩):=by rw[hc];simp[Af]
   have Hsn:=Aa (show Ap 44 (ps.take (k+1))=if ps.take k=[]then ps[k]else Ap 44 (ps.take k)++44::ps[k]from by rw[Bn ps k hlt];exact S7 44 ps[k] (ps.take k))
   have hpl:=Hp.o _ (List.getElem_mem hlt)
   have He:Hid (ps.take k=[]↔k=0):=by
    constructor
    ·intro h
     have:=congrArg List.length h
     rw[List.length_take,Nat.min_eq_left hk]at this
     simpa using this
    rintro rfl;rfl
   generalize ps[k]=p at c0 Hsn hpl
   clear hc
   by_cases h0:k=0
   ·have h0i:¬(0:Int)<(k:Int):=by omega
    have Hs2:=Aa (Hsn.o.trans (if_pos (He.o.2 h0)))
    have hj0:Ap 44 (ps.take k)=[]:=by rw[He.o.2 h0];rfl
    rw[hj0]
    clear h0 hjl hj0
    go_wp2_with fail
    go_round
    case rel=>exact⟨k+1,by go_num,by omega,by rw[Hs2.o]⟩
    case measure=>simp[intOf];omega
   have h0i:(0:Int)<(k:Int):=by omega
   have Hs2:=Aa (Hsn.o.trans (if_neg (fun h=>h0 (He.o.1 h))))
   generalize Ap 44 (ps.take k)=js at *
   clear h0
   go_wp2_with fail
   go_round
   case rel=>exact⟨k+1,by go_num,by omega,by rw[Hs2.o]⟩
   case measure=>simp[intOf];omega
  ·obtain rfl:k=ps.length:=by omega
   have Hfin:Hid (ps.take ps.length=ps):=List.take_length
   go_wp2_with fail
   go_ret
   exact⟨by first|rfl|rw[Hfin.o],rfl⟩
def sfR:Option Fd->Value
 |some f=>.tuple #[Z4 f,.bool true]
 |none=>.tuple #[sf0,.bool false]
theorem Su(st nm fv:Value)(fs:List Fd)(n:Nat)(w:World)(h:Eu w fv fs)(hn:n<=1000000000):
  Calls prog 57 #[.agg #[st,nm,fv],.int .i64 n] w fun e w'=>e=.returned (sfR (Bc fs n))/\Below w w w':=by
 obtain⟨A,c,rfl,hl,hr⟩:=h;have Hr:=Aa hr;clear hr;go_enter func57,ntmps57;go_wp2_with fail;go_loopw [6] (fun i wr=>∃k:Nat,i=.int .i64 k/\k<=fs.length/\wr=(w.alloc (.cells #[st,nm,.slice A fs.length c] 90)).alloc (.cells #[.int .i64 0,a8,a8,a8] 94)/\Hid (∀f∈fs.take k,decide (f.tag=n)=false)) (fun i _=>fs.length - (intOf i).toNat)
 case atStart=>exact⟨0,rfl,ag _,rfl,by intro f hf;simp at hf⟩
 case round=>
  obtain⟨k,rfl,hk,rfl,hin⟩:=hrel;by_cases hlt:k<fs.length
  ·obtain⟨b,off,rfl,hb,c0,c1,c2,c3⟩:=Eu.at_ Hr.o hlt;have Hts:=Aa (Bn fs k hlt);have Hft:=Aa (P5 (p:=fun f=>decide (f.tag=n)) hlt hin.o);generalize fs[k]=f at c0 c1 c2 c3 Hts Hft;have k1:(0:Int)<=(k:Int):=aG;have k2:(k:Int)<(fs.length:Int):=aG;by_cases he:f.tag=n
   ·have t1:((f.tag:Int) == (n:Int))=true:=by simp[he]
    have Hfin:=Aa (show Bc fs n=some f by unfold Bc;rw[Hft.o,if_pos cD]);clear he;go_wp2_with fail;exact aE (v:=.tuple #[Z4 f,.bool true]) (by simp[results,results57,go_sem,Z4]) rfl ⟨by rw[Hfin.o];rfl,((At _ _).alloc (Ao _) _).alloc aK _⟩
   have t1:((f.tag:Int) == (n:Int))=false:=bS
   have Hin:=Aa (show ∀g∈fs.take (k+1),decide (g.tag=n)=false by
    intro g hg;rw[Hts.o]at hg;rcases af.1 hg with hg|hg
    ·exact hin.o g hg
    simp at hg;subst hg;simpa using he)
   clear he;go_wp2_with fail;go_roundw
   case rel=>exact⟨k+1,by go_num,by omega,Ab,Hin.o⟩
   case measure=>simp[intOf];omega
  ·have Hfin:=@Aa (Bc fs n=none) (Kc (fun f hf=>hin.o f cY));go_wp2_with fail;exact aE (v:=.tuple #[sf0,.bool false]) (by simp[results,results57,go_sem,sf0]) rfl ⟨by rw[Hfin.o];rfl,((At _ _).alloc (Ao _) _).alloc aK _⟩
def P3:Option (Ty × Value)->Value
 |some x=>.tuple #[Nm x.1 x.2,.bool true]
 |none=>.tuple #[Mk,.bool false]
theorem P7(v:Value)(xs:List (Ty × Value))(n:List UInt8)(w:World)(h:Kv w v xs):
  Calls prog 88 #[v,n] w fun e w'=>e=.returned (P3 (Ek xs n))/\Below w w w':=by
 obtain⟨A,c,rfl,hl,hr,hf⟩:=h;have Hr:=Aa hr;have Hf:=Aa hf;clear hr hf;go_enter func88,ntmps88;go_wp2_with fail;go_loopw [6] (fun i wr=>∃k:Nat,i=.int .i64 k/\k<=xs.length/\wr=w.alloc (.cells #[.int .u8 0,a8,.slice none 0 0] 90)/\Hid (∀x∈xs.take k,decide (x.1.name=n)=false)) (fun i _=>xs.length - (intOf i).toNat)
 case atStart=>exact⟨0,rfl,ag _,rfl,by intro f hf;simp at hf⟩
 case round=>
  obtain⟨k,rfl,hk,rfl,hin⟩:=hrel;by_cases hlt:k<xs.length
  ·obtain⟨b,off,rfl,hb,c0,c1,c2⟩:=Kv.at_ Hr.o hlt;have Hts:=Aa (Bn xs k hlt);have Hft:=Aa (P5 (p:=fun x=>decide (x.1.name=n)) hlt hin.o);have hfx:=Hf.o _ (ae hlt);generalize xs[k]=x at c0 c1 c2 Hts Hft hfx;obtain⟨t,fv⟩:=x;simp only[]at c0 c1 c2 hfx;obtain⟨A2,d2,hfv,_⟩:=hfx;subst hfv;have k1:(0:Int)<=(k:Int):=aG;have k2:(k:Int)<(xs.length:Int):=aG;by_cases he:t.name=n
   ·have t1:(t.name == n)=true:=by simp[he]
    have Hfin:=Aa (show Ek xs n=some (t,.slice A2 t.fields.length d2)by unfold Ek;rw[Hft.o,if_pos cD]);clear he;go_wp2_with fail;refine aE (v:=.tuple #[Nm t (.slice A2 t.fields.length d2),.bool true]) (by simp[results,results88,go_sem,Nm]) rfl ?_;exact gX
   have t1:(t.name == n)=false:=cD
   have Hin:=Aa (show ∀g∈xs.take (k+1),decide (g.1.name=n)=false by
    intro g hg;rw[Hts.o]at hg;rcases af.1 hg with hg|hg
    ·exact hin.o g hg
    simp at hg;subst hg;simpa using he)
   clear he;go_wp2_with fail;go_roundw
   case rel=>exact⟨k+1,by go_num,by omega,Ab,Hin.o⟩
   case measure=>simp[intOf];omega
  ·have Hfin:=@Aa (Ek xs n=none) (Kc (fun f hf=>hin.o f cY));go_wp2_with fail;refine aE (v:=.tuple #[Mk,.bool false]) (by simp[results,results88,go_sem,Mk]) rfl ?_;exact gX
theorem Qfh{k:Kd}(h:C9 k):(k.signs=[]/\k.base=[64]/\Br k=64::(k.name++[59])/\k.name.length<=3)\/(¬(k.signs=[]/\k.base=[64])/\∃c t,Br k=c::t/\c≠64/\t.length<=12):=by
 obtain⟨h1,h2,h3⟩:=h;cases hs:k.signs with
 |cons c t=>
  refine .inr ⟨by simp,c,t++Ck k,by unfold Br;rw[hs];rfl,?_,?_⟩
  ·rw[hs]at h1;simp only[List.all_cons,av]at h1;rintro rfl;exact absurd h1.1 aJ
  unfold Br at h3;rw[hs]at h3;simp at h3 ⊢;omega
 |nil=>
  rcases h2 with⟨hb,hn⟩|⟨hb,_⟩
  ·exact .inl ⟨rfl,hb,by unfold Br Ck;rw[hs,if_pos hb];rfl,(Dr.1 hn).2.1⟩
  refine .inr ⟨?_,?_⟩
  ·rintro⟨_,h⟩;rcases hb with hb|hb|hb<;>· rw[hb]at h;revert h;decide
  have hc:Br k=k.base:=by
   unfold Br Ck;rw[hs,if_neg (by rcases hb with hb|hb|hb<;>· rw[hb];decide)];rfl
  rw[hc];rcases hb with hb|hb|hb<;>· rw[hb];exact⟨_,_,rfl,by decide,by simp⟩
theorem Gb(v:Value)(xs:List (Ty × Value))(k:Kd)(w:World)(h:Kv w v xs)(hk:C9 k):
  Calls prog 56 #[v,.string ⟨(Br k).toArray⟩] w fun e w'=>e=.returned (P3 (Kl xs k))/\Below w w w':=by
 have H:=Aa h;clear h;rcases Qfh hk with⟨h1,h2,h3,h4⟩|⟨h1,c,t,h3,h4,h5⟩
 ·have Hr:=@Aa (Kl xs k=Ek xs k.name) (if_pos ⟨h1,h2⟩);rw[h3];clear h1 h2 h3;go_enter func56,ntmps56;go_wp2_with fail;refine(Tm k.name _ aG).mono ?_;rintro e w' ⟨rfl,rfl⟩;go_wp2_with fail;refine(P7 v xs k.name _ (H.o.below ((At _ _).alloc (Ao _) _))).mono ?_;rintro e w2 ⟨rfl,hb⟩;cases hf:Ek xs k.name with
  |none=>
   rw[hf]at Hr;obtain⟨hc,hfz,hz⟩:=Bs hb;have Hb:=Aa (((At w.heap.size w).alloc (Ao _) _).trans (hb.mono aK));clear hb hf;unfold P3 Mk;go_wp2_with fail;refine aE (v:=.tuple #[Mk,.bool false]) (by simp[results,results56,go_sem,Mk,hc]) rfl ?_;exact gY
  |some x=>
   obtain⟨t,fv⟩:=x;have hm:=(D9 hf).1;obtain⟨A,c,_,_,_,hfs⟩:=H.o;obtain⟨A2,d2,e2,_⟩:=hfs _ hm;simp only at e2;subst e2;rw[hf]at Hr;obtain⟨hc,hfz,hz⟩:=Bs hb;have Hb:=Aa (((At w.heap.size w).alloc (Ao _) _).trans (hb.mono aK));clear hb hf hm hfs;unfold P3 Nm;go_wp2_with fail;refine aE (v:=.tuple #[Nm t (.slice A2 t.fields.length d2),.bool true]) (by simp[results,results56,go_sem,Nm,hc]) rfl ?_;exact gY
 have Hr:=@Aa (Kl xs k=none) (if_neg h1);rw[h3];clear h1 h3;go_enter func56,ntmps56;go_wp2_with fail;refine(Yx c t _ h4 aG).mono ?_;rintro e w' ⟨rfl,rfl⟩;go_wp2_with fail;refine aE (v:=.tuple #[Mk,.bool false]) (by simp[results,results56,go_sem,Mk]) rfl ?_;exact⟨by rw[Hr.o];rfl,(At _ _).alloc (Ao _) _⟩
def C4(s d:List UInt8):Option (List Ty × Kd):=
 match Bz s with
 |none=>none
 |some S=>match Cd d with
  |none=>none
  |some k=>if B0 S k then some (S,k)else none
theorem Qaf{s d:List UInt8}{S:List Ty}{k:Kd}(h:C4 s d=some (S,k)):Bz s=some S/\Cd d=some k/\B0 S k:=by
 unfold C4 at h
 cases h1:Bz s with
 |none=>rw[h1]at h;cases h
 |some T=>cases h2:Cd d with
  |none=>rw[h1,h2]at h;cases h
  |some q=>
   rw[h1,h2]at h
   simp only at h
   split at h
   ·rename_i hr
    simp only[Option.some.injEq,Prod.mk.injEq]at h
    obtain⟨rfl,rfl⟩:=h
    exact⟨rfl,rfl,hr⟩
   cases h
theorem N9{s d:List UInt8}{S:List Ty}{k:Kd}(h:C4 s d=some (S,k)):Ps S/\s.length<=400/\scB S=s/\C9 k/\Br k=d/\B0 S k:=by
 obtain⟨h1,h2,h3⟩:=Qaf h
 obtain⟨a1,a2,a3⟩:=Po.1 h1
 obtain⟨b1,b2⟩:=D2.1 h2
 exact⟨a1,a2,a3,b1,b2,h3⟩
def Jr(s d x:List UInt8)(w:World)(e:Ending)(w':World):Prop:=Below w.heap.size w w'/\match C4 s d with
 |none=>∃v q,e=.returned (.tuple #[v,.pointer q,.bool false])
 |some y=>match H8 y.1 y.2 x with
  |none=>∃v q,e=.returned (.tuple #[v,.pointer q,.bool false])
  |some v=>∃xv xs b,e=.returned (.tuple #[xv,.pointer (some ⟨b,0,none⟩),.bool true])/\Ak xs=y.1/\Kv w' xv xs/\Ge (fun c=>w.heap.size<=c) w' b (Ct y.1 y.2 v)
end
end Go.Proofs.YtpjijpcemejlnaaGreatDoor
