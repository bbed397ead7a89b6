/- Texts joined. Conditions: as each theorem names them. -/
import Derived.Sort.Walk0
import Derived.Test.YtpjijpcemejlnaaGreatDoorM07
set_option maxRecDepth 100000
set_option maxHeartbeats 32000000
set_option linter.unusedVariables false
set_option linter.unusedSimpArgs false
namespace Go.Proofs.YtpjijpcemejlnaaGreatDoor
open Go.RowKit Go.Proofs.Tryz
section
attribute [local go_sem] Qkk Qj0 Qjm Qhu ByteArray.mk_append_mk
theorem Ro(c:UInt8)(p:List UInt8):∀(l:List (List UInt8)),Ar c (l++[p])=if l.length=0 then p else Ar c l++c::p
 |[]=>rfl
 |[q]=>by simp[Ar]
 |q::r::l=>by
  have ih:=Ro c p (r::l);rw[av,Cl c q aM,ih,Cl c q aM];simp
def Gc(l:List UInt8)(w:World)(e:Ending)(w':World):Prop:=e=.returned l/\Below w w w'
theorem Gb.open_{P:Nat->Prop}{w:World}{b:Nat}{kind text:List UInt8}{tags:List Nat}{kids:List SV}(h:Gb P w b (.mk kind text tags kids)):∃(A1 A2:Option Addr) (c1 c2:Nat) (xs:List (Nat × SV)),b<w.heap.size/\P b/\w.cell? (b,0)=kind/\w.cell? (b,1)=text /\
  w.cell? (b,2)=some (.slice A1 tags.length c1)/\w.cell? (b,3)=some (.slice A2 xs.length c2)/\Bj w A1 tags.length (Dj tags)/\Bj w A2 xs.length (D9 (xs.map (·.1)))/\tags.length<=1000/\xs.length<=1000/\kids=xs.map (·.2)/\∀x∈xs,Gb P w x.1 x.2:=by
 obtain⟨k,t,g,A1,A2,c1,c2,xs,hv,hb,hP,h0,h1,h2,h3,hr1,hr2,hl1,hl2,_,_,h⟩:=h;injection hv with e1 e2 e3 e4;subst e1 e2 e3 e4;exact⟨A1,A2,c1,c2,xs,hb,hP,h0,h1,h2,h3,hr1,hr2,hl1,hl2,rfl,h⟩
theorem Vi{xs:List (Nat × SV)}{i:Nat}(hi:i<xs.length):(D9 (xs.map (·.1)))[i]'(by simp[D9];exact hi)=.pointer (some ⟨xs[i].1,0,none⟩):=by simp[D9]
theorem Qcy{l:List Nat}{i:Nat}(hi:i<l.length):(Dj l)[i]'(by simp[Dj];exact hi)=.int .i64 (l[i]:Int):=by simp[Dj]
theorem Qa(P:Nat->Prop)(b:Nat)(c:UInt8)(tx:List UInt8)(w:World)(hc:c=110\/c=116\/c=102)(h:Gb P w b (.mk [c] tx [] [])):Calls prog 50 #[b] w (Gc tx w):=by
 obtain⟨_,_,_,_,_,hb,_,h0,h1,_⟩:=h.open_;have HR:=Aa h1;rcases hc with rfl|rfl|rfl<;>
 ·go_enter func50,ntmps50;go_wp2_with fail;go_ret;exact iT
theorem Qgc(P:Nat->Prop)(b:Nat)(kr:List UInt8)(kids:List SV)(ks:List Vl)(w:World)(h:Gb P w b (.mk (91::kr) [] [] kids))(hkr:kr.length<=100)(hl:(Bh (.mk 91 [] 0 ks)).length<=100000000)(hkl:kids.length=ks.length)
  (ih:∀(i:Nat) (hi:i<kids.length) (hi2:i<ks.length) b W,Gb P W b kids[i]->(Bh ks[i]).length<=100000000->Calls prog 50 #[.pointer (some ⟨b,0,none⟩)] W (Gc (Bh ks[i]) W)):
  Calls prog 50 #[.pointer (some ⟨b,0,none⟩)] w (Gc (Bh (.mk 91 [] 0 ks)) w):=by
 obtain⟨A1,A2,c1,c2,xs,hb,_,h0,_,_,h3,_,hr2,_,hxl,rfl,hk⟩:=h.open_;have HF:=Aa (Jn ks);have hjl:(Ar 44 (ks.map Bh)).length<=100000000:=by rw[Jn]at hl;simp at hl;omega
 rw[Ca]at hjl
 have Hjt:=Aa (fun i (hi:i<ks.length)=>(show Dx ((ks.take (i+1)).map Bh)<=Dx (ks.map Bh)/\(Bh ks[i]).length+1+Dx ((ks.take i).map Bh)=Dx ((ks.take (i+1)).map Bh)from by
  refine⟨?_,?_⟩
  ·conv=>rhs;rw[<-List.take_append_drop (i+1) ks,az]
   exact iX
  rw[Bt ks i hi,az];simp[Dx];omega))
 have hkl2:xs.length=ks.length:=by simpa using hkl
 have Ih:=Aa ih;have Hr:=Aa hr2;have Hk:=Aa hk;have Hkl:=Aa hkl2;have Hlen:=Aa hjl;have hle:ks.length<=xs.length:=aH;clear hkl hkl2 ih hr2 hk h hl hjl;go_enter func50,ntmps50;go_wp2_with fail;go_loopw [4,3] (fun i s wr=>∃m:Nat,i=.int .i64 m/\m<=xs.length/\s=.string ⟨(91::Ar 44 ((ks.take m).map Bh):List UInt8).toArray⟩/\Hid (Below w w wr)) (fun i _ _=>xs.length - (intOf i).toNat)
 case atStart=>exact⟨0,rfl,ah _,rfl,At _ _⟩
 case round=>
  obtain⟨m,rfl,hm,rfl,Hbr⟩:=hrel;have m1:(0:Int)<=(m:Int):=aH;have g3:=(Hbr.o.cell (p:=⟨b,3,none⟩) hb).trans h3;have hbw:b<wr.heap.size:=eK;have HJ:=Aa (Ca 44 ((ks.take m).map Bh));by_cases hlt:m<xs.length
  ·have m2:(m:Int)<(xs.length:Int):=aH;have hltk:m<ks.length:=ej;obtain⟨b8,o8,rfl,hb8,hc8⟩:=(Hr.o.below Hbr.o).at_ hlt;rw[Vi hlt]at hc8;have HX:=Aa (fun W (hW:Below w w W)=>Ih.o m (by simpa using hlt) hltk xs[m].1 W ey (by obtain⟨q1,q2⟩:=Hjt.o m hltk;have:=Hlen.o;omega));obtain⟨q1,q2⟩:=Hjt.o m hltk;have hjm:(Ar 44 ((ks.take m).map Bh)).length<=100000000:=by rw[HJ.o];have:=Hlen.o;omega
   have hpm:(Bh ks[m]).length<=100000000:=by have:=Hlen.o;omega
   have HP:=Aa (show Ar 44 ((ks.take (m+1)).map Bh)=if m=0 then Bh ks[m]else Ar 44 ((ks.take m).map Bh)++44::Bh ks[m]from by
    rw[Bt ks m hltk,az,List.map_singleton,Ro];have:((ks.take m).map Bh).length=m:=aN;rw[this])
   have HP0:=@Aa (m=0->Ar 44 ((ks.take m).map Bh)=[]) (by rintro rfl;rfl);clear q1 q2;generalize Bh ks[m]=pm at *;generalize Ar 44 ((ks.take m).map Bh)=jm at *;generalize xs[m].1=bm at *;by_cases h0m:m=0
   ·have t0:¬(0<m):=aH;have t1:¬((0:Int)<(m:Int)):=aH;have HP1:=Aa (HP.o.trans (if_pos h0m));have HP2:=Aa (HP0.o h0m);clear h0m HP HP0 HJ;go_wp2_with fail;refine(HX.o _ Hbr.o).mono ?_;rintro e w3 ⟨rfl,hb3⟩;have Hb3:=Aa (Hbr.o.trans (hb3.mono Hbr.o.size));clear hb3;go_wp2_with fail;go_roundw
    case rel=>exact⟨m+1,by go_num,by omega,by rw[HP1.o,HP2.o];rfl,Hb3.o⟩
    case measure=>simp[intOf];omega
   have t0:0<m:=aH;have t1:(0:Int)<(m:Int):=aH;have HP1:=Aa (HP.o.trans (if_neg h0m));clear h0m HP HP0 HJ;go_wp2_with fail;refine(HX.o _ Hbr.o).mono ?_;rintro e w3 ⟨rfl,hb3⟩;have Hb3:=Aa (Hbr.o.trans (hb3.mono Hbr.o.size));clear hb3;go_wp2_with fail;go_roundw
   case rel=>exact⟨m+1,by go_num,by omega,by rw[HP1.o]<;>simp,Hb3.o⟩
   case measure=>simp[intOf];omega
  ·have em:m=ks.length:=ej;have HE:=Aa (show Ar 44 ((ks.take m).map Bh)=Ar 44 (ks.map Bh)by rw[em,List.take_length]);have hjm:(Ar 44 ((ks.take m).map Bh)).length<=100000000:=by rw[HE.o,Ca];exact Hlen.o
   clear em HJ;generalize Ar 44 ((ks.take m).map Bh)=jm at *;go_wp2_with fail;go_ret;exact⟨by rw[HF.o,<-HE.o];rfl,Hbr.o⟩
theorem Qb7(P:Nat->Prop)(b:Nat)(kr:List UInt8)(kids:List SV)(o:Option Vl)(w:World)(h:Gb P w b (.mk (63::kr) [] [] kids))(hkr:kr.length<=100)(hl:(Bh (.mk 63 [] 0 o.toList)).length<=100000000)(hkl:kids.length=o.toList.length)
  (ih:∀x,o=some x->∀b W y,y∈kids->Gb P W b y->Calls prog 50 #[.pointer (some ⟨b,0,none⟩)] W (Gc (Bh x) W)):
  Calls prog 50 #[.pointer (some ⟨b,0,none⟩)] w (Gc (Bh (.mk 63 [] 0 o.toList)) w):=by
 obtain⟨A1,A2,c1,c2,xs,hb,_,h0,_,_,h3,_,hr2,_,hxl,rfl,hk⟩:=h.open_;cases o with
 |none=>
  have hx0:xs=[]:=by simpa using hkl
  subst hx0;clear hk hr2 ih h;go_enter func50,ntmps50;go_wp2_with fail;go_ret;exact iT
 |some x=>
  obtain⟨⟨bx,y⟩,rfl⟩:∃a,xs=[a]:=by
   cases xs with
   |nil=>simp at hkl
   |cons a l=>cases l with
    |nil=>exact⟨a,rfl⟩
    |cons b l=>simp at hkl
  have HF:=Aa (show Bh (.mk 63 [] 0 [x])=43::Bh x by simp[Bh,Dz,H6,Ar]);have hpl:(Bh x).length<=100000000:=by have:=HF.o;simp only[Option.toList]at hl;rw[this]at hl;simp at hl;omega
  obtain⟨b8,o8,rfl,hb8,hc8⟩:=hr2.at_ (show 0<1 by decide);simp[D9]at hc8;have HX:=Aa (ih x rfl bx w y aM (hk (bx,y) aM));simp only[List.length_singleton]at h3;clear hk hr2 ih h hkl;generalize Bh x=px at *;go_enter func50,ntmps50;go_wp2_with fail;refine HX.o.mono ?_;rintro e w3 ⟨rfl,hb3⟩;have Hb3:=Aa hb3;clear hb3;go_wp2_with fail;go_ret;exact⟨by show _=Ending.returned (.string ⟨(Bh (.mk 63 [] 0 [x])).toArray⟩);rw[HF.o];rfl,Hb3.o⟩
theorem Tl{w:World}{base lo n k:Nat}{e:TypeId}{v:Value}{xs:List Value}(h:w.ownsRow base e k v n xs)(hl:lo<=base):w.ownsRow lo e k v n xs:=by
 rcases h with⟨h1,h2|⟨g,cap,cur,h2,h3,h4⟩⟩
 ·exact⟨h1,.inl h2⟩
 exact⟨h1,.inr ⟨g,cap,cur,h2,Nat.le_trans hl h3,h4⟩⟩
structure Gw(vo vo':Value)(w w':World):Prop where
 gr:w.grownBy w' vo.ownBlock
 own:vo'.ownBlock=vo.ownBlock\/∃k,vo'.ownBlock=some k/\w.heap.size<=k
theorem Gw.refl(vo:Value)(w:World):Gw vo vo w w:=⟨World.grownBy.refl _ _,.inl rfl⟩
theorem Gw.trans{v1 v2 v3:Value}{a b c:World}(h:Gw v1 v2 a b)(k:Gw v2 v3 b c):Gw v1 v3 a c:=by
 refine⟨⟨k.gr.os.trans h.gr.os,k.gr.tape.trans h.gr.tape,k.gr.output.trans h.gr.output,Nat.le_trans h.gr.size k.gr.size,fun x hx hne=>(k.gr.block x (Nat.lt_of_lt_of_le hx h.gr.size) ?_).trans (h.gr.block x hx hne)⟩,?_⟩
 ·rcases h.own with e|⟨y,e,hy⟩
  ·rw[e];exact hne
  rw[e];intro he;injection he with he;omega
 rcases k.own with e|⟨y,e,hy⟩
 ·rw[e];exact h.own
 exact .inr ⟨y,e,Nat.le_trans h.gr.size hy⟩
theorem Gw.of{v:Value}{a b:World}(hb:Below a.heap.size a b):Gw v v a b:=⟨⟨hb.os,hb.tape,hb.output,hb.size,fun k hk _=>hb.block k hk⟩,.inl rfl⟩
theorem Bj.sub{w:World}{g o n:Nat}{xs:List Value}(h:Bj w (some ⟨g,o,none⟩) n xs)(a k:Nat)(hk:a+k<=n):Bj w (some ⟨g,o+a,none⟩) k ((xs.drop a).take k):=by
 refine⟨by have:=h.1;simp;omega,by have:=h.2.1;omega,fun hn=>?_⟩
 obtain⟨b,off,e,hlt,hc⟩:=h.2.2 (by omega)
 injection e with e;injection e with e1 e2;subst e1 e2
 refine⟨_,_,rfl,hlt,fun j u hj=>?_⟩
 have:=hc (a+j) u (by
  rw[List.getElem?_take]at hj
  split at hj
  ·rwa [List.getElem?_drop]at hj
  cases hj)
 rwa [Nat.add_assoc]
abbrev Mw(B:Nat)(W:World)(g n c:Nat)(xs:List (List UInt8)):Prop:=W.ownsRow B 9 1 (.slice (some ⟨g,0,none⟩) n c) n (Ah xs)
structure Js(w0:World)(xs:List (List UInt8))(k:Nat)(x:List UInt8)(l0 l4 l9 l10 l14 l15:Bool)(u0 u4 u9 u10 u14 u15:Value)(W:World):Prop where
 bel:Below w0.heap.size w0 W
 d10:l10=true->l4=true/\l9=true
 d14:l14=true->l10=true
 d15:l15=true->l14=true
 s0:l0=true->l4=false->∃b,u0=.slice (some ⟨b,0,none⟩) 0 0/\Mw w0.heap.size W b 0 0 []
 s4:l4=true->l10=false->∃b c,u4=.slice (some ⟨b,0,none⟩) k c/\Mw w0.heap.size W b k c (xs.take k)
 s9:l9=true->l10=false->∃b,u9=.slice (some ⟨b,0,none⟩) 1 1/\w0.heap.size<=b/\b<W.heap.size/\W.cell? ⟨b,0,none⟩=some (.string ⟨x.toArray⟩)/\(l0=true->l4=false->u0.ownBlock≠some b)/\(l4=true->u4.ownBlock≠some b)
 s10:l10=true->l14=false->∃b c,u10=.slice (some ⟨b,0,none⟩) (k+1) c/\Mw w0.heap.size W b (k+1) c (xs.take k++[x])
 s14:l14=true->∃b c,u14=.slice (some ⟨b,0,none⟩) (xs.length+1) c/\Mw w0.heap.size W b (xs.length+1) c (xs.take k++x::xs.drop k)
 s15:l15=true->u15=u14
section
variable {w0 W W':World} {xs:List (List UInt8)} {k:Nat} {x:List UInt8} {l0 l4 l9 l10 l14 l15:Bool} {u0 u4 u9 u10 u14 u15:Value}
theorem Js.start:Js w0 xs k x false false false false false false u0 u4 u9 u10 u14 u15 w0.drew:=
 ⟨(At _ _).drew,by simp,by simp,by simp,by simp,by simp,by simp,by simp,by simp,by simp⟩
theorem Js.op0(h:Js w0 xs k x false l4 l9 l10 l14 l15 u0 u4 u9 u10 u14 u15 W)(h4:l4=false):Js w0 xs k x true l4 l9 l10 l14 l15 (.slice (some ⟨W.heap.size,0,none⟩) 0 0) u4 u9 u10 u14 u15 (W.alloc (.cells #[] 9)):=by
 subst h4
 have hb:=(At W.heap.size W).alloc (Ao _) (.cells #[] 9)
 refine⟨h.bel.alloc h.bel.size _,h.d10,h.d14,h.d15,fun _ _=>⟨_,rfl,Pp W _ _ h.bel.size⟩,by simp,fun h9 h10=>?_,fun h1 h2=>?_,fun h1=>?_,h.s15⟩
 ·obtain⟨b,e,e1,e2,e3,_,_⟩:=h.s9 h9 h10
  exact⟨b,e,e1,Nat.lt_of_lt_of_le e2 hb.size,(hb.cell (p:=⟨b,0,none⟩) e2).trans e3,fun _ _ e=>absurd (show W.heap.size=b by injection e) (by omega),by simp⟩
 ·obtain⟨b,c,e,ho⟩:=h.s10 h1 h2
  exact⟨b,c,e,Bl ho hb⟩
 obtain⟨b,c,e,ho⟩:=h.s14 h1
 exact⟨b,c,e,Bl ho hb⟩
theorem Js.op4(h:Js w0 xs k x l0 false l9 l10 l14 l15 u0 u4 u9 u10 u14 u15 W){b g c:Nat}(e0:u0=.slice (some ⟨b,0,none⟩) 0 0)(hl:w0.heap.size<=b)(ho:Mw w0.heap.size W' g k c (xs.take k))(hg:W.grownBy W' (some b))(hw:g=b\/W.heap.size<=g)(h0:l0=true)(v4:Value)(e4:v4=.slice (some ⟨g,0,none⟩) k c):
  Js w0 xs k x l0 true l9 l10 l14 l15 u0 v4 u9 u10 u14 u15 W':=by
 subst e4
 have h10:l10=false:=by cases hq:l10 with|false=>rfl|true=>exact absurd (h.d10 hq).1 (by decide)
 have h14:l14=false:=by cases hq:l14 with|false=>rfl|true=>exact absurd (h10.symm.trans (h.d14 hq)) (by decide)
 subst h10 h14
 refine⟨h.bel.grown hg h.bel.size (fun q hq=>by injection hq with hq;omega),by simp,by simp,h.d15,by simp,fun _ _=>⟨g,c,rfl,ho⟩,fun h9 _=>?_,by simp,by simp,h.s15⟩
 obtain⟨b9,e,e1,e2,e3,e4,_⟩:=h.s9 h9 rfl
 have hne:=e4 h0 rfl
 rw[e0]at hne
 refine⟨b9,e,e1,Nat.lt_of_lt_of_le e2 hg.size,hg.cell e3 (fun e=>hne e.symm),by simp,fun _ e=>?_⟩
 have e:g=b9:=by injection e
 rcases hw with hw|hw
 ·exact hne (by rw[<-hw,e];rfl)
 omega
theorem Js.op9(h:Js w0 xs k x l0 l4 false l10 l14 l15 u0 u4 u9 u10 u14 u15 W)(h10:l10=false):Js w0 xs k x l0 l4 true l10 l14 l15 u0 u4 (.slice (some ⟨W.heap.size,0,none⟩) 1 1) u10 u14 u15 (W.alloc (.cells #[.string ⟨x.toArray⟩] 9)):=by
 subst h10
 have h14:l14=false:=by cases hq:l14 with|false=>rfl|true=>exact absurd (h.d14 hq) (by decide)
 subst h14
 have hb:=(At W.heap.size W).alloc (Ao _) (.cells #[.string ⟨x.toArray⟩] 9)
 refine⟨h.bel.alloc h.bel.size _,by simp,by simp,h.d15,fun h0 h4=>?_,fun h4 h5=>?_,fun _ _=>⟨_,rfl,h.bel.size,by simp,by simp,fun h0 h4 e=>?_,fun h4 e=>?_⟩,by simp,by simp,h.s15⟩
 ·obtain⟨b,e,ho⟩:=h.s0 h0 h4
  exact⟨b,e,Bl ho hb⟩
 ·obtain⟨b,c,e,ho⟩:=h.s4 h4 h5
  exact⟨b,c,e,Bl ho hb⟩
 ·obtain⟨b,e',ho⟩:=h.s0 h0 h4
  rw[e']at e
  have:=(ho.lt _ e).2
  omega
 obtain⟨b,c,e',ho⟩:=h.s4 h4 rfl
 rw[e']at e
 have:=(ho.lt _ e).2
 omega
theorem Js.op10(h:Js w0 xs k x l0 l4 l9 false l14 l15 u0 u4 u9 u10 u14 u15 W)(h4:l4=true)(h9:l9=true){b g c:Nat}(hl:w0.heap.size<=b)(ho:Mw w0.heap.size W' g (k+1) c (xs.take k++[x]))(hg:W.grownBy W' (some b))(v10:Value)(e10:v10=.slice (some ⟨g,0,none⟩) (k+1) c):
  Js w0 xs k x l0 l4 l9 true l14 l15 u0 u4 u9 v10 u14 u15 W':=by
 have h14:l14=false:=by cases hq:l14 with|false=>rfl|true=>exact absurd (h.d14 hq) (by decide)
 subst e10 h4 h9 h14
 exact⟨h.bel.grown hg h.bel.size (fun q hq=>by injection hq with hq;omega),by simp,by simp,h.d15,by simp,by simp,by simp,fun _ _=>⟨g,c,rfl,ho⟩,by simp,h.s15⟩
theorem Js.op14(h:Js w0 xs k x l0 l4 l9 l10 false l15 u0 u4 u9 u10 u14 u15 W)(h10:l10=true){b g c:Nat}(hl:w0.heap.size<=b)(ho:Mw w0.heap.size W' g (xs.length+1) c (xs.take k++x::xs.drop k))(hg:W.grownBy W' (some b))(v14:Value)(e14:v14=.slice (some ⟨g,0,none⟩) (xs.length+1) c):
  Js w0 xs k x l0 l4 l9 l10 true l15 u0 u4 u9 u10 v14 u15 W':=by
 have h15:l15=false:=by cases hq:l15 with|false=>rfl|true=>exact absurd (h.d15 hq) (by decide)
 subst e14 h10 h15
 have:=(h.d10 rfl).1
 subst this
 exact⟨h.bel.grown hg h.bel.size (fun q hq=>by injection hq with hq;omega),fun _=>⟨rfl,(h.d10 rfl).2⟩,by simp,by simp,by simp,by simp,by simp,by simp,fun _=>⟨g,c,rfl,ho⟩,by simp⟩
end
def Qh2(n:Nat)(xs ys:List (List UInt8))(w:World)(e:Ending)(w':World):Prop:=
 ∃ga ca gb cb,e=.returned (.tuple #[.slice (some ⟨ga,0,none⟩) n ca,.slice (some ⟨gb,0,none⟩) n cb])/\Mw w.heap.size w' ga n ca xs/\Mw w.heap.size w' gb n cb ys/\ga≠gb/\Below w.heap.size w w'
theorem Xw(names texts:List (List UInt8))(m:Nat)(h1:m<names.length)(h2:m<texts.length):(names.zip texts).take (m+1)=(names.zip texts).take m++[(names[m],texts[m])]:=by
 rw[Bt _ m (by simp;omega)]
 simp
theorem Qfo(A B:Option Addr)(n c d:Nat)(names texts:List (List UInt8))(w:World)(hr1:Bj w A n (Ah names))(hr2:Bj w B n (Ah texts))(hn:n<=1000):
  Calls prog 58 #[.slice A n c,.slice B n d] w (Qh2 n ((Gd (·.1) (names.zip texts)).map (·.1)) ((Gd (·.1) (names.zip texts)).map (·.2)) w):=by
 have hn1:names.length=n:=by have:=hr1.1;simpa [Ah]using this
 have hn2:texts.length=n:=by have:=hr2.1;simpa [Ah]using this
 go_enter func58,ntmps58
 go_wp2_with fail
 generalize hw1:World.alloc (World.alloc w _) _=w1
 have hb1:Below w.heap.size w w1:=by rw[<-hw1];exact((At _ _).alloc (Ao _) _).alloc (by simp) _
 have ho1:Mw w.heap.size w1 w.heap.size 0 0 []:=by rw[<-hw1];exact Bl (Pp w _ _ (Ao _)) ((At _ _).alloc (Ao _) _)
 have ho2:Mw w.heap.size w1 (w.heap.size+1) 0 0 []:=by rw[<-hw1];have:=Pp (w.alloc (.cells #[] 9)) 9 w.heap.size (by simp);show World.ownsRow _ _ _ _ _ _ _;simpa [Ah]using this
 have Hb1:=Aa hb1
 have Ho1:=Aa ho1
 have Ho2:=Aa ho2
 have Hr1:=Aa hr1
 have Hr2:=Aa hr2
 clear hw1 hb1 ho1 ho2 hr1 hr2
 go_loopw [8,6,7,9] (fun i a b x wr=>∃(m ga ca gb cb:Nat),i=.int .i64 m/\a=.slice (some ⟨ga,0,none⟩) m ca/\b=.slice (some ⟨gb,0,none⟩) m cb/\m<=n/\Hid (ga≠gb)/\Hid (Mw w.heap.size wr ga m ca ((Gd (·.1) ((names.zip texts).take m)).map (·.1)))/\Hid (Mw w.heap.size wr gb m cb ((Gd (·.1) ((names.zip texts).take m)).map (·.2)))/\Hid (Below w.heap.size w wr)) (fun i _ _ _ _=>n - (intOf i).toNat)
 case atStart=>exact⟨0,w.heap.size,0,w.heap.size+1,0,rfl,rfl,rfl,Nat.zero_le _,by show _≠_;omega,Ho1.o,Ho2.o,Hb1.o⟩
 case round=>
  obtain⟨m,ga,ca,gb,cb,rfl,rfl,rfl,hm,Hne,Hoa,Hob,Hbr⟩:=hrel
  have m1:(0:Int)<=(m:Int):=by omega
  obtain⟨wo,rfl⟩:∃wo,wo=wr:=⟨_,rfl⟩
  by_cases hlt:m<n
  ·have m2:(m:Int)<(n:Int):=by omega
   have hlL:(Gd (·.1) ((names.zip texts).take m)).length=m:=by rw[(Gu _ _).length_eq];simp;omega
   obtain⟨_,_,ea,hra⟩:=Bj.own Hoa.o
   injection ea with ea1 ea2 ea3
   subst ea1 ea3
   obtain⟨_,_,eb,hrb⟩:=Bj.own Hob.o
   injection eb with eb1 eb2 eb3
   subst eb1 eb3
   have hla:=Hoa.o.lt ga rfl
   have hlb:=Hob.o.lt gb rfl
   have hca:m<=ca:=Yr Hoa.o
   have hcb:m<=cb:=Yr Hob.o
   obtain⟨b1,o1,rfl,hb1,hc1⟩:=(Hr1.o.below Hbr.o).at_ hlt
   obtain⟨b2,o2,rfl,hb2,hc2⟩:=(Hr2.o.below Hbr.o).at_ hlt
   have hm1:m<names.length:=by omega
   have hm2:m<texts.length:=by omega
   replace hc1:wo.cell? ⟨b1,o1+m,none⟩=some (.string ⟨names[m].toArray⟩):=by simpa [Ah]using hc1
   replace hc2:wo.cell? ⟨b2,o2+m,none⟩=some (.string ⟨texts[m].toArray⟩):=by simpa [Ah]using hc2
   have Hzp:=Aa (Xw names texts m hm1 hm2)
   generalize names[m]=x at *
   generalize texts[m]=y at *
   obtain⟨L,hL⟩:∃L,L=Gd (·.1) ((names.zip texts).take m):=⟨_,rfl⟩
   rw[<-hL]at hlL Hoa Hob
   obtain⟨La,hLa⟩:∃La,La=L.map (·.1):=⟨_,rfl⟩
   obtain⟨Lb,hLb⟩:∃Lb,Lb=L.map (·.2):=⟨_,rfl⟩
   rw[<-hL,<-hLa]at hra
   rw[<-hL,<-hLb]at hrb
   have hlLa:La.length=m:=by rw[hLa];simpa using hlL
   have hlLb:Lb.length=m:=by rw[hLb];simpa using hlL
   have HL:=Aa hL
   have HLa:=Aa hLa
   have HLb:=Aa hLb
   have HlL:=Aa hlL
   have Hra:=Aa hra
   have Hrb:=Aa hrb
   clear hL hLa hLb hlL hra hrb
   go_wp2_with fail
   go_loopw [9] (fun q wi=>∃k:Nat,q=.int .i64 k/\k<=m/\Hid (∀z∈L.take k,z.1<x)/\Hid (Below wo.heap.size wo wi)) (fun q _=>m - (intOf q).toNat)
   case atStart=>exact⟨0,rfl,Nat.zero_le _,by show ∀z∈_,_;simp,At _ _⟩
   case round=>
    obtain⟨k,rfl,hk,Hsm,Hbi⟩:=hrel
    have k1:(0:Int)<=(k:Int):=by omega
    obtain⟨wi,hwi⟩:∃wi,wi=wr:=⟨_,rfl⟩
    by_cases hkm:k<m
    ·have k2:(k:Int)<(m:Int):=by omega
     have hkL:k<L.length:=by have:=HlL.o;omega
     obtain⟨_,_,eq,_,hca0⟩:=(Hra.o.below Hbi.o).at_ hkm
     injection eq with eq
     injection eq with eq1 eq2 _
     subst eq1 eq2
     replace hca0:wr.cell? ⟨ga,k,none⟩=some (.string ⟨L[k].1.toArray⟩):=by simpa [Ah,HLa.o]using hca0
     have hcx0:=(Hbi.o.cell (p:=⟨b1,o1+m,none⟩) hb1).trans hc1
     have l1:ga<wr.heap.size:=Nat.lt_of_lt_of_le hla.2 Hbi.o.size
     have l2:b1<wr.heap.size:=Nat.lt_of_lt_of_le hb1 Hbi.o.size
     have Hts:=Aa (Bt L k hkL)
     have Hlk:=Aa (show ¬L[k].1<x->¬(fun z:List UInt8 × List UInt8=>z.1) L[k]<(fun z:List UInt8 × List UInt8=>z.1) (x,y)from id)
     by_cases hz:L[k].1<x
     ·have t1:Op.bytesLess L[k].1 x=true:=by rw[bytesLess_eq];simpa using hz
      have Hs2:=Aa (show ∀z∈L.take (k+1),z.1<x from by
       intro z hz2
       rw[Hts.o]at hz2
       rcases List.mem_append.1 hz2 with hz2|hz2
       ·exact Hsm.o z hz2
       simp only[List.mem_singleton]at hz2;subst hz2;exact hz)
      clear hz
      generalize L[k].1=z at *
      go_wp2_with fail
      refine rgB ?_
      iterate 15 refine sq ?_
      refine dnB fun w6 HB=>?_
      have Hb6:=Aa (Hbi.o.trans (HB.o.mono Hbi.o.size))
      clear HB
      go_wp2_with fail
      go_roundw
      case rel=>exact⟨k+1,by go_num,by omega,Hs2.o,Hb6.o⟩
      case measure=>simp[intOf];omega
     have t1:Op.bytesLess L[k].1 x=false:=by rw[bytesLess_eq];simpa using hz
     have Hge:=Aa (Hlk.o hz)
     clear hz Hlk
     have Hkk:=Aa hkL
     generalize hzz:L[k].1=z at *
     clear hzz
     go_wp2_with fail
     refine rgB ?_
     iterate 15 refine sq ?_
     refine dnB fun w7 HB=>?_
     have Hbj:=Aa (Hbi.o.trans (HB.o.mono Hbi.o.size))
     clear HB hca0 hcx0 l1 l2 t1
     go_wp2_with fail
     have hins:Gd (·.1) ((names.zip texts).take (m+1))=L.take k++(x,y)::L.drop k:=by
      rw[Hzp.o,Yl,<-HL.o]
      exact Zl (·.1) (x,y) L k (by have:=HlL.o;omega) Hsm.o (fun h=>Hge.o)
     have Hxa:=Aa (show (Gd (·.1) ((names.zip texts).take (m+1))).map (·.1)=La.take k++x::La.drop k by rw[hins,HLa.o];simp[List.map_take,List.map_drop])
     have Hxb:=Aa (show (Gd (·.1) ((names.zip texts).take (m+1))).map (·.2)=Lb.take k++y::Lb.drop k by rw[hins,HLb.o];simp[List.map_take,List.map_drop])
     clear hins
     have Hgar:=Aa (Hra.o.below Hbj.o)
     have hcx:=(Hbj.o.cell (p:=⟨b1,o1+m,none⟩) hb1).trans hc1
     have hlx:b1<w7.heap.size:=Nat.lt_of_lt_of_le hb1 Hbj.o.size
     have hkca:k<=ca:=by omega
     have hkcb:k<=cb:=by omega
     have hkma:k<=m:=hk
     refine rgF (fun l u W=>Js w7 La k x (l 0) (l 4) (l 9) (l 10) (l 14) (l 15) (u 0) (u 4) (u 9) (u 10) (u 14) (u 15) W) (Gi w7) (fun _ _ _ h=>H8 h.bel) Js.start ?_
     refine Sb (fun _=>True) (by
      intro l u W hl hp hF hG hi K hK
      have h:Js w7 La k x (l 0) (l 4) (l 9) (l 10) (l 14) (l 15) (u 0) (u 4) (u 9) (u 10) (u 14) (u 15) W:=hF.o
      rw[hl]at h
      have h4:=(hi.o 4 (by rfl)).1
      clear hp
      have Hh:=Aa (h.op0 h4)
      clear h h4 hi hG
      go_simp
      exact hK _ _ _ Ab Hh.o rfl) ?_
     refine sqI 15 ?_
     refine sq ?_
     refine sq ?_
     refine Sb (fun _=>True) (by
      intro l u W hl hp hF hG hi K hK
      have h:Js w7 La k x (l 0) (l 4) (l 9) (l 10) (l 14) (l 15) (u 0) (u 4) (u 9) (u 10) (u 14) (u 15) W:=hF.o
      rw[hl]at h
      simp[Region.binds,Et]at hp
      obtain⟨b,e0,ho⟩:=h.s0 (by simp[hp]) rfl
      have hb:=ho.lt b rfl
      simp only[Region.wanted,if_true]
      refine Gj W (.tmp 35) (.tmp 38) 31 rfl w7.heap.size 9 (.string ⟨#[]⟩) 16 underlying31 Ef (by decide) b 0 0 (Ah []) ?_ (some ⟨ga,0,none⟩) k ca (Ah (La.take k)) ?_ ?_ (Fi _) ho (by unfold maxLen;omega) (by omega) h.bel.size ?_
      ·simp[hp,e0];rfl
      ·simp[hp];rfl
      ·have q:=(Hgar.o.below h.bel).sub 0 k (by omega)
       simpa [Ah,List.map_take]using q
      intro g' c' w' ho' hg' hw'
      refine hK _ _ _ Ab ?_ rfl
      simp only[Nat.zero_add]at ho' ⊢
      exact h.op4 e0 hb.1 ho' hg' hw' (by simp[hp]) _ rfl) ?_
     refine sq ?_
     refine sq ?_
     refine sq ?_
     refine sq ?_
     refine Sb (fun _=>True) (by
      intro l u W hl hp hF hG hi K hK
      have h:Js w7 La k x (l 0) (l 4) (l 9) (l 10) (l 14) (l 15) (u 0) (u 4) (u 9) (u 10) (u 14) (u 15) W:=hF.o
      rw[hl]at h
      have h10:=(hi.o 10 (by rfl)).1
      simp[Region.binds,Et]at hp
      have Hh:=Aa (h.op9 h10)
      clear h h10 hi hG
      go_simp
      exact hK _ _ _ Ab Hh.o (by first|rfl|(simp[Act.put,hp];done)|(simp[Act.put,hp];exact rfl))) ?_
     refine Sb (fun _=>True) (by
      intro l u W hl hp hF hG hi K hK
      have h:Js w7 La k x (l 0) (l 4) (l 9) (l 10) (l 14) (l 15) (u 0) (u 4) (u 9) (u 10) (u 14) (u 15) W:=hF.o
      rw[hl]at h
      simp[Region.binds,Et]at hp
      obtain⟨b,c,e4,ho⟩:=h.s4 (by simp[hp]) rfl
      obtain⟨b9,e9,_,hb9,hc9,_,_⟩:=h.s9 (by simp[hp]) rfl
      have hb:=ho.lt b rfl
      simp only[Region.wanted,if_true]
      refine Gj W (.tmp 39) (.tmp 44) 31 rfl w7.heap.size 9 (.string ⟨#[]⟩) 16 underlying31 Ef (by decide) b k c (Ah (La.take k)) ?_ (some ⟨b9,0,none⟩) 1 1 [.string ⟨x.toArray⟩] ?_ ?_ (by simp[Value.oneCell']) ho (by unfold maxLen;omega) (by omega) h.bel.size ?_
      ·simp[hp,e4];rfl
      ·simp[hp,e9];rfl
      ·refine⟨rfl,by decide,fun _=>⟨b9,0,rfl,hb9,fun j u hj=>?_⟩⟩
       match j,hj with
       |0,hj=>simp at hj;subst hj;exact hc9
      intro g' c' w' ho' hg' _
      refine hK _ _ _ Ab ?_ rfl
      exact h.op10 (by simp[hp]) (by simp[hp]) hb.1 (by rw[show Ah (La.take k)++[.string ⟨x.toArray⟩]=Ah (La.take k++[x])by simp[Ah]]at ho';exact ho') hg' _ rfl) ?_
     refine sqI 15 ?_
     refine sq ?_
     refine sq ?_
     refine Sb (fun _=>True) (by
      intro l u W hl hp hF hG hi K hK
      have h:Js w7 La k x (l 0) (l 4) (l 9) (l 10) (l 14) (l 15) (u 0) (u 4) (u 9) (u 10) (u 14) (u 15) W:=hF.o
      rw[hl]at h
      simp[Region.binds,Et]at hp
      obtain⟨b,c,e10,ho⟩:=h.s10 (by simp[hp]) rfl
      have hb:=ho.lt b rfl
      simp only[Region.wanted,if_true]
      refine Gj W (.tmp 45) (.tmp 48) 31 rfl w7.heap.size 9 (.string ⟨#[]⟩) 16 underlying31 Ef (by decide) b (k+1) c (Ah (La.take k++[x])) ?_ (if ca=k then some ⟨ga,0,none⟩else some ⟨ga,k,none⟩) (m - k) (ca - k) (Ah (La.drop k)) ?_ ?_ (Fi _) ho (by unfold maxLen;omega) (by omega) h.bel.size ?_
      ·simp[hp,e10];rfl
      ·simp[hp];rfl
      ·by_cases hck:ca=k
       ·have e0:m - k=0:=by omega
        rw[e0,show La.drop k=[]from List.drop_eq_nil_of_le (by omega)]
        exact⟨rfl,Nat.zero_le _,fun h=>absurd h (by simp)⟩
       rw[if_neg hck]
       have q:=(Hgar.o.below h.bel).sub k (m - k) (by omega)
       rw[Nat.zero_add]at q
       rw[show Ah (La.drop k)=((Ah La).drop k).take (m - k)by rw[show (Ah La).drop k=Ah (La.drop k)by simp[Ah,List.map_drop],List.take_of_length_le (by rw[Jp,List.length_drop];omega)]]
       exact q
      intro g' c' w' ho' hg' _
      refine hK _ _ _ Ab ?_ rfl
      rw[show Ah (La.take k++[x])++Ah (La.drop k)=Ah (La.take k++x::La.drop k)by simp[Ah],show k+1+(m - k)=La.length+1 by omega]at ho'
      rw[show k+1+(m - k)=La.length+1 by omega]
      exact h.op14 (by simp[hp]) hb.1 ho' hg' _ rfl) ?_
     refine Sb (fun _=>True) (by
      intro l u W hl hp hF hG hi K hK
      have h:Js w7 La k x (l 0) (l 4) (l 9) (l 10) (l 14) (l 15) (u 0) (u 4) (u 9) (u 10) (u 14) (u 15) W:=hF.o
      simp[Region.binds,Et]at hp
      have h15:=hl
      clear hG hi
      have HF:=Aa h
      clear h
      go_simp
      refine hK (u 14) _ _ Ab ?_ (by simp[Act.put,hp])
      have h:=HF.o
      exact⟨h.bel,h.d10,h.d14,fun _=>by simp[hp],h.s0,h.s4,h.s9,h.s10,h.s14,fun _=>rfl⟩) ?_
     intro l u w8 hl _ hR
     have hR:Js w7 La k x (l 0) (l 4) (l 9) (l 10) (l 14) (l 15) (u 0) (u 4) (u 9) (u 10) (u 14) (u 15) w8:=hR
     obtain⟨g7,c7,e14,ho7⟩:=hR.s14 (hl 14 (by decide))
     rw[hlLa]at e14 ho7
     have e15:=(hR.s15 (hl 15 (by decide))).trans e14
     have hb7:=hR.bel
     simp only[e15]
     clear hl hR e14 e15
     have Hb7:=Aa (Hbj.o.trans (hb7.mono Hbj.o.size))
     have Ho7:=Aa ho7
     have hl78:=hb7.size
     have Hgbr:=Aa (Hrb.o.below Hb7.o)
     have hcy:=(Hb7.o.cell (p:=⟨b2,o2+m,none⟩) hb2).trans hc2
     have hly:b2<w8.heap.size:=Nat.lt_of_lt_of_le hb2 Hb7.o.size
     clear hb7 ho7 hcx hlx Hgar
     go_wp2_with fail
     refine rgF (fun l u W=>Js w8 Lb k y (l 0) (l 4) (l 9) (l 10) (l 14) (l 15) (u 0) (u 4) (u 9) (u 10) (u 14) (u 15) W) (Gi w8) (fun _ _ _ h=>H8 h.bel) Js.start ?_
     refine Sb (fun _=>True) (by
      intro l u W hl hp hF hG hi K hK
      have h:Js w8 Lb k y (l 0) (l 4) (l 9) (l 10) (l 14) (l 15) (u 0) (u 4) (u 9) (u 10) (u 14) (u 15) W:=hF.o
      rw[hl]at h
      have h4:=(hi.o 4 (by rfl)).1
      clear hp
      have Hh:=Aa (h.op0 h4)
      clear h h4 hi hG
      go_simp
      exact hK _ _ _ Ab Hh.o rfl) ?_
     refine sqI 15 ?_
     refine sq ?_
     refine sq ?_
     refine Sb (fun _=>True) (by
      intro l u W hl hp hF hG hi K hK
      have h:Js w8 Lb k y (l 0) (l 4) (l 9) (l 10) (l 14) (l 15) (u 0) (u 4) (u 9) (u 10) (u 14) (u 15) W:=hF.o
      rw[hl]at h
      simp[Region.binds,Et]at hp
      obtain⟨b,e0,ho⟩:=h.s0 (by simp[hp]) rfl
      have hb:=ho.lt b rfl
      simp only[Region.wanted,if_true]
      refine Gj W (.tmp 50) (.tmp 53) 31 rfl w8.heap.size 9 (.string ⟨#[]⟩) 16 underlying31 Ef (by decide) b 0 0 (Ah []) ?_ (some ⟨gb,0,none⟩) k cb (Ah (Lb.take k)) ?_ ?_ (Fi _) ho (by unfold maxLen;omega) (by omega) h.bel.size ?_
      ·simp[hp,e0];rfl
      ·simp[hp];rfl
      ·have q:=(Hgbr.o.below h.bel).sub 0 k (by omega)
       simpa [Ah,List.map_take]using q
      intro g' c' w' ho' hg' hw'
      refine hK _ _ _ Ab ?_ rfl
      simp only[Nat.zero_add]at ho' ⊢
      exact h.op4 e0 hb.1 ho' hg' hw' (by simp[hp]) _ rfl) ?_
     refine sq ?_
     refine sq ?_
     refine sq ?_
     refine sq ?_
     refine Sb (fun _=>True) (by
      intro l u W hl hp hF hG hi K hK
      have h:Js w8 Lb k y (l 0) (l 4) (l 9) (l 10) (l 14) (l 15) (u 0) (u 4) (u 9) (u 10) (u 14) (u 15) W:=hF.o
      rw[hl]at h
      have h10:=(hi.o 10 (by rfl)).1
      simp[Region.binds,Et]at hp
      have Hh:=Aa (h.op9 h10)
      clear h h10 hi hG
      go_simp
      exact hK _ _ _ Ab Hh.o (by first|rfl|(simp[Act.put,hp];done)|(simp[Act.put,hp];exact rfl))) ?_
     refine Sb (fun _=>True) (by
      intro l u W hl hp hF hG hi K hK
      have h:Js w8 Lb k y (l 0) (l 4) (l 9) (l 10) (l 14) (l 15) (u 0) (u 4) (u 9) (u 10) (u 14) (u 15) W:=hF.o
      rw[hl]at h
      simp[Region.binds,Et]at hp
      obtain⟨b,c,e4,ho⟩:=h.s4 (by simp[hp]) rfl
      obtain⟨b9,e9,_,hb9,hc9,_,_⟩:=h.s9 (by simp[hp]) rfl
      have hb:=ho.lt b rfl
      simp only[Region.wanted,if_true]
      refine Gj W (.tmp 54) (.tmp 59) 31 rfl w8.heap.size 9 (.string ⟨#[]⟩) 16 underlying31 Ef (by decide) b k c (Ah (Lb.take k)) ?_ (some ⟨b9,0,none⟩) 1 1 [.string ⟨y.toArray⟩] ?_ ?_ (by simp[Value.oneCell']) ho (by unfold maxLen;omega) (by omega) h.bel.size ?_
      ·simp[hp,e4];rfl
      ·simp[hp,e9];rfl
      ·refine⟨rfl,by decide,fun _=>⟨b9,0,rfl,hb9,fun j u hj=>?_⟩⟩
       match j,hj with
       |0,hj=>simp at hj;subst hj;exact hc9
      intro g' c' w' ho' hg' _
      refine hK _ _ _ Ab ?_ rfl
      exact h.op10 (by simp[hp]) (by simp[hp]) hb.1 (by rw[show Ah (Lb.take k)++[.string ⟨y.toArray⟩]=Ah (Lb.take k++[y])by simp[Ah]]at ho';exact ho') hg' _ rfl) ?_
     refine sqI 15 ?_
     refine sq ?_
     refine sq ?_
     refine Sb (fun _=>True) (by
      intro l u W hl hp hF hG hi K hK
      have h:Js w8 Lb k y (l 0) (l 4) (l 9) (l 10) (l 14) (l 15) (u 0) (u 4) (u 9) (u 10) (u 14) (u 15) W:=hF.o
      rw[hl]at h
      simp[Region.binds,Et]at hp
      obtain⟨b,c,e10,ho⟩:=h.s10 (by simp[hp]) rfl
      have hb:=ho.lt b rfl
      simp only[Region.wanted,if_true]
      refine Gj W (.tmp 60) (.tmp 63) 31 rfl w8.heap.size 9 (.string ⟨#[]⟩) 16 underlying31 Ef (by decide) b (k+1) c (Ah (Lb.take k++[y])) ?_ (if cb=k then some ⟨gb,0,none⟩else some ⟨gb,k,none⟩) (m - k) (cb - k) (Ah (Lb.drop k)) ?_ ?_ (Fi _) ho (by unfold maxLen;omega) (by omega) h.bel.size ?_
      ·simp[hp,e10];rfl
      ·simp[hp];rfl
      ·by_cases hck:cb=k
       ·have e0:m - k=0:=by omega
        rw[e0,show Lb.drop k=[]from List.drop_eq_nil_of_le (by omega)]
        exact⟨rfl,Nat.zero_le _,fun h=>absurd h (by simp)⟩
       rw[if_neg hck]
       have q:=(Hgbr.o.below h.bel).sub k (m - k) (by omega)
       rw[Nat.zero_add]at q
       rw[show Ah (Lb.drop k)=((Ah Lb).drop k).take (m - k)by rw[show (Ah Lb).drop k=Ah (Lb.drop k)by simp[Ah,List.map_drop],List.take_of_length_le (by rw[Jp,List.length_drop];omega)]]
       exact q
      intro g' c' w' ho' hg' _
      refine hK _ _ _ Ab ?_ rfl
      rw[show Ah (Lb.take k++[y])++Ah (Lb.drop k)=Ah (Lb.take k++y::Lb.drop k)by simp[Ah],show k+1+(m - k)=Lb.length+1 by omega]at ho'
      rw[show k+1+(m - k)=Lb.length+1 by omega]
      exact h.op14 (by simp[hp]) hb.1 ho' hg' _ rfl) ?_
     refine Sb (fun _=>True) (by
      intro l u W hl hp hF hG hi K hK
      have h:Js w8 Lb k y (l 0) (l 4) (l 9) (l 10) (l 14) (l 15) (u 0) (u 4) (u 9) (u 10) (u 14) (u 15) W:=hF.o
      simp[Region.binds,Et]at hp
      have h15:=hl
      clear hG hi
      have HF:=Aa h
      clear h
      go_simp
      refine hK (u 14) _ _ Ab ?_ (by simp[Act.put,hp])
      have h:=HF.o
      exact⟨h.bel,h.d10,h.d14,fun _=>by simp[hp],h.s0,h.s4,h.s9,h.s10,h.s14,fun _=>rfl⟩) ?_
     intro l u w9 hl _ hR
     have hR:Js w8 Lb k y (l 0) (l 4) (l 9) (l 10) (l 14) (l 15) (u 0) (u 4) (u 9) (u 10) (u 14) (u 15) w9:=hR
     obtain⟨g8,c8,e14,ho8⟩:=hR.s14 (hl 14 (by decide))
     rw[hlLb]at e14 ho8
     have e15:=(hR.s15 (hl 15 (by decide))).trans e14
     have hb8:=hR.bel
     simp only[e15]
     clear hl hR e14 e15
     have h77:=Ho7.o.lt g7 rfl
     have h88:=ho8.lt g8 rfl
     have Hn2:=Aa (show g7≠g8 by omega)
     have Hoa2:=Aa (show Mw w.heap.size w9 g7 (m+1) c7 ((Gd (·.1) ((names.zip texts).take (m+1))).map (·.1))by rw[Hxa.o];exact Tl (Bl Ho7.o hb8) (by have:=Hbr.o.size;have:=Hbj.o.size;omega))
     have Hob2:=Aa (show Mw w.heap.size w9 g8 (m+1) c8 ((Gd (·.1) ((names.zip texts).take (m+1))).map (·.2))by rw[Hxb.o];exact Tl ho8 (by have:=Hbr.o.size;have:=Hbj.o.size;omega))
     have Hb9:=Aa (Hbr.o.trans ((Hb7.o.trans (hb8.mono Hb7.o.size)).mono Hbr.o.size))
     clear hb8 ho8 h77 h88 hcy hly
     go_wp2_with fail
     go_roundw
     case rel=>exact⟨m+1,g7,c7,g8,c8,by go_num,rfl,rfl,by omega,Hn2.o,Hoa2.o,Hob2.o,Hb9.o⟩
     case measure=>simp[intOf];omega
    ·have hkm2:k=m:=by omega
     have k2:¬((k:Int)<(m:Int)):=by omega
     have Hkm2:=Aa hkm2
     clear hkm2
     go_wp2_with fail
     refine rgB ?_
     iterate 15 refine sq ?_
     refine dnB fun w7 HB=>?_
     have Hbj:=Aa (Hbi.o.trans (HB.o.mono Hbi.o.size))
     clear HB
     go_wp2_with fail
     have hins:Gd (·.1) ((names.zip texts).take (m+1))=L.take k++(x,y)::L.drop k:=by
      rw[Hzp.o,Yl,<-HL.o]
      exact Zl (·.1) (x,y) L k (by have:=HlL.o;omega) Hsm.o (fun h=>absurd h (by have:=HlL.o;omega))
     have Hxa:=Aa (show (Gd (·.1) ((names.zip texts).take (m+1))).map (·.1)=La.take k++x::La.drop k by rw[hins,HLa.o];simp[List.map_take,List.map_drop])
     have Hxb:=Aa (show (Gd (·.1) ((names.zip texts).take (m+1))).map (·.2)=Lb.take k++y::Lb.drop k by rw[hins,HLb.o];simp[List.map_take,List.map_drop])
     clear hins
     have Hgar:=Aa (Hra.o.below Hbj.o)
     have hcx:=(Hbj.o.cell (p:=⟨b1,o1+m,none⟩) hb1).trans hc1
     have hlx:b1<w7.heap.size:=Nat.lt_of_lt_of_le hb1 Hbj.o.size
     have hkca:k<=ca:=by omega
     have hkcb:k<=cb:=by omega
     have hkma:k<=m:=hk
     refine rgF (fun l u W=>Js w7 La k x (l 0) (l 4) (l 9) (l 10) (l 14) (l 15) (u 0) (u 4) (u 9) (u 10) (u 14) (u 15) W) (Gi w7) (fun _ _ _ h=>H8 h.bel) Js.start ?_
     refine Sb (fun _=>True) (by
      intro l u W hl hp hF hG hi K hK
      have h:Js w7 La k x (l 0) (l 4) (l 9) (l 10) (l 14) (l 15) (u 0) (u 4) (u 9) (u 10) (u 14) (u 15) W:=hF.o
      rw[hl]at h
      have h4:=(hi.o 4 (by rfl)).1
      clear hp
      have Hh:=Aa (h.op0 h4)
      clear h h4 hi hG
      go_simp
      exact hK _ _ _ Ab Hh.o rfl) ?_
     refine sqI 15 ?_
     refine sq ?_
     refine sq ?_
     refine Sb (fun _=>True) (by
      intro l u W hl hp hF hG hi K hK
      have h:Js w7 La k x (l 0) (l 4) (l 9) (l 10) (l 14) (l 15) (u 0) (u 4) (u 9) (u 10) (u 14) (u 15) W:=hF.o
      rw[hl]at h
      simp[Region.binds,Et]at hp
      obtain⟨b,e0,ho⟩:=h.s0 (by simp[hp]) rfl
      have hb:=ho.lt b rfl
      simp only[Region.wanted,if_true]
      refine Gj W (.tmp 35) (.tmp 38) 31 rfl w7.heap.size 9 (.string ⟨#[]⟩) 16 underlying31 Ef (by decide) b 0 0 (Ah []) ?_ (some ⟨ga,0,none⟩) k ca (Ah (La.take k)) ?_ ?_ (Fi _) ho (by unfold maxLen;omega) (by omega) h.bel.size ?_
      ·simp[hp,e0];rfl
      ·simp[hp];rfl
      ·have q:=(Hgar.o.below h.bel).sub 0 k (by omega)
       simpa [Ah,List.map_take]using q
      intro g' c' w' ho' hg' hw'
      refine hK _ _ _ Ab ?_ rfl
      simp only[Nat.zero_add]at ho' ⊢
      exact h.op4 e0 hb.1 ho' hg' hw' (by simp[hp]) _ rfl) ?_
     refine sq ?_
     refine sq ?_
     refine sq ?_
     refine sq ?_
     refine Sb (fun _=>True) (by
      intro l u W hl hp hF hG hi K hK
      have h:Js w7 La k x (l 0) (l 4) (l 9) (l 10) (l 14) (l 15) (u 0) (u 4) (u 9) (u 10) (u 14) (u 15) W:=hF.o
      rw[hl]at h
      have h10:=(hi.o 10 (by rfl)).1
      simp[Region.binds,Et]at hp
      have Hh:=Aa (h.op9 h10)
      clear h h10 hi hG
      go_simp
      exact hK _ _ _ Ab Hh.o (by first|rfl|(simp[Act.put,hp];done)|(simp[Act.put,hp];exact rfl))) ?_
     refine Sb (fun _=>True) (by
      intro l u W hl hp hF hG hi K hK
      have h:Js w7 La k x (l 0) (l 4) (l 9) (l 10) (l 14) (l 15) (u 0) (u 4) (u 9) (u 10) (u 14) (u 15) W:=hF.o
      rw[hl]at h
      simp[Region.binds,Et]at hp
      obtain⟨b,c,e4,ho⟩:=h.s4 (by simp[hp]) rfl
      obtain⟨b9,e9,_,hb9,hc9,_,_⟩:=h.s9 (by simp[hp]) rfl
      have hb:=ho.lt b rfl
      simp only[Region.wanted,if_true]
      refine Gj W (.tmp 39) (.tmp 44) 31 rfl w7.heap.size 9 (.string ⟨#[]⟩) 16 underlying31 Ef (by decide) b k c (Ah (La.take k)) ?_ (some ⟨b9,0,none⟩) 1 1 [.string ⟨x.toArray⟩] ?_ ?_ (by simp[Value.oneCell']) ho (by unfold maxLen;omega) (by omega) h.bel.size ?_
      ·simp[hp,e4];rfl
      ·simp[hp,e9];rfl
      ·refine⟨rfl,by decide,fun _=>⟨b9,0,rfl,hb9,fun j u hj=>?_⟩⟩
       match j,hj with
       |0,hj=>simp at hj;subst hj;exact hc9
      intro g' c' w' ho' hg' _
      refine hK _ _ _ Ab ?_ rfl
      exact h.op10 (by simp[hp]) (by simp[hp]) hb.1 (by rw[show Ah (La.take k)++[.string ⟨x.toArray⟩]=Ah (La.take k++[x])by simp[Ah]]at ho';exact ho') hg' _ rfl) ?_
     refine sqI 15 ?_
     refine sq ?_
     refine sq ?_
     refine Sb (fun _=>True) (by
      intro l u W hl hp hF hG hi K hK
      have h:Js w7 La k x (l 0) (l 4) (l 9) (l 10) (l 14) (l 15) (u 0) (u 4) (u 9) (u 10) (u 14) (u 15) W:=hF.o
      rw[hl]at h
      simp[Region.binds,Et]at hp
      obtain⟨b,c,e10,ho⟩:=h.s10 (by simp[hp]) rfl
      have hb:=ho.lt b rfl
      simp only[Region.wanted,if_true]
      refine Gj W (.tmp 45) (.tmp 48) 31 rfl w7.heap.size 9 (.string ⟨#[]⟩) 16 underlying31 Ef (by decide) b (k+1) c (Ah (La.take k++[x])) ?_ (if ca=k then some ⟨ga,0,none⟩else some ⟨ga,k,none⟩) (m - k) (ca - k) (Ah (La.drop k)) ?_ ?_ (Fi _) ho (by unfold maxLen;omega) (by omega) h.bel.size ?_
      ·simp[hp,e10];rfl
      ·simp[hp];rfl
      ·by_cases hck:ca=k
       ·have e0:m - k=0:=by omega
        rw[e0,show La.drop k=[]from List.drop_eq_nil_of_le (by omega)]
        exact⟨rfl,Nat.zero_le _,fun h=>absurd h (by simp)⟩
       rw[if_neg hck]
       have q:=(Hgar.o.below h.bel).sub k (m - k) (by omega)
       rw[Nat.zero_add]at q
       rw[show Ah (La.drop k)=((Ah La).drop k).take (m - k)by rw[show (Ah La).drop k=Ah (La.drop k)by simp[Ah,List.map_drop],List.take_of_length_le (by rw[Jp,List.length_drop];omega)]]
       exact q
      intro g' c' w' ho' hg' _
      refine hK _ _ _ Ab ?_ rfl
      rw[show Ah (La.take k++[x])++Ah (La.drop k)=Ah (La.take k++x::La.drop k)by simp[Ah],show k+1+(m - k)=La.length+1 by omega]at ho'
      rw[show k+1+(m - k)=La.length+1 by omega]
      exact h.op14 (by simp[hp]) hb.1 ho' hg' _ rfl) ?_
     refine Sb (fun _=>True) (by
      intro l u W hl hp hF hG hi K hK
      have h:Js w7 La k x (l 0) (l 4) (l 9) (l 10) (l 14) (l 15) (u 0) (u 4) (u 9) (u 10) (u 14) (u 15) W:=hF.o
      simp[Region.binds,Et]at hp
      have h15:=hl
      clear hG hi
      have HF:=Aa h
      clear h
      go_simp
      refine hK (u 14) _ _ Ab ?_ (by simp[Act.put,hp])
      have h:=HF.o
      exact⟨h.bel,h.d10,h.d14,fun _=>by simp[hp],h.s0,h.s4,h.s9,h.s10,h.s14,fun _=>rfl⟩) ?_
     intro l u w8 hl _ hR
     have hR:Js w7 La k x (l 0) (l 4) (l 9) (l 10) (l 14) (l 15) (u 0) (u 4) (u 9) (u 10) (u 14) (u 15) w8:=hR
     obtain⟨g7,c7,e14,ho7⟩:=hR.s14 (hl 14 (by decide))
     rw[hlLa]at e14 ho7
     have e15:=(hR.s15 (hl 15 (by decide))).trans e14
     have hb7:=hR.bel
     simp only[e15]
     clear hl hR e14 e15
     have Hb7:=Aa (Hbj.o.trans (hb7.mono Hbj.o.size))
     have Ho7:=Aa ho7
     have hl78:=hb7.size
     have Hgbr:=Aa (Hrb.o.below Hb7.o)
     have hcy:=(Hb7.o.cell (p:=⟨b2,o2+m,none⟩) hb2).trans hc2
     have hly:b2<w8.heap.size:=Nat.lt_of_lt_of_le hb2 Hb7.o.size
     clear hb7 ho7 hcx hlx Hgar
     go_wp2_with fail
     refine rgF (fun l u W=>Js w8 Lb k y (l 0) (l 4) (l 9) (l 10) (l 14) (l 15) (u 0) (u 4) (u 9) (u 10) (u 14) (u 15) W) (Gi w8) (fun _ _ _ h=>H8 h.bel) Js.start ?_
     refine Sb (fun _=>True) (by
      intro l u W hl hp hF hG hi K hK
      have h:Js w8 Lb k y (l 0) (l 4) (l 9) (l 10) (l 14) (l 15) (u 0) (u 4) (u 9) (u 10) (u 14) (u 15) W:=hF.o
      rw[hl]at h
      have h4:=(hi.o 4 (by rfl)).1
      clear hp
      have Hh:=Aa (h.op0 h4)
      clear h h4 hi hG
      go_simp
      exact hK _ _ _ Ab Hh.o rfl) ?_
     refine sqI 15 ?_
     refine sq ?_
     refine sq ?_
     refine Sb (fun _=>True) (by
      intro l u W hl hp hF hG hi K hK
      have h:Js w8 Lb k y (l 0) (l 4) (l 9) (l 10) (l 14) (l 15) (u 0) (u 4) (u 9) (u 10) (u 14) (u 15) W:=hF.o
      rw[hl]at h
      simp[Region.binds,Et]at hp
      obtain⟨b,e0,ho⟩:=h.s0 (by simp[hp]) rfl
      have hb:=ho.lt b rfl
      simp only[Region.wanted,if_true]
      refine Gj W (.tmp 50) (.tmp 53) 31 rfl w8.heap.size 9 (.string ⟨#[]⟩) 16 underlying31 Ef (by decide) b 0 0 (Ah []) ?_ (some ⟨gb,0,none⟩) k cb (Ah (Lb.take k)) ?_ ?_ (Fi _) ho (by unfold maxLen;omega) (by omega) h.bel.size ?_
      ·simp[hp,e0];rfl
      ·simp[hp];rfl
      ·have q:=(Hgbr.o.below h.bel).sub 0 k (by omega)
       simpa [Ah,List.map_take]using q
      intro g' c' w' ho' hg' hw'
      refine hK _ _ _ Ab ?_ rfl
      simp only[Nat.zero_add]at ho' ⊢
      exact h.op4 e0 hb.1 ho' hg' hw' (by simp[hp]) _ rfl) ?_
     refine sq ?_
     refine sq ?_
     refine sq ?_
     refine sq ?_
     refine Sb (fun _=>True) (by
      intro l u W hl hp hF hG hi K hK
      have h:Js w8 Lb k y (l 0) (l 4) (l 9) (l 10) (l 14) (l 15) (u 0) (u 4) (u 9) (u 10) (u 14) (u 15) W:=hF.o
      rw[hl]at h
      have h10:=(hi.o 10 (by rfl)).1
      simp[Region.binds,Et]at hp
      have Hh:=Aa (h.op9 h10)
      clear h h10 hi hG
      go_simp
      exact hK _ _ _ Ab Hh.o (by first|rfl|(simp[Act.put,hp];done)|(simp[Act.put,hp];exact rfl))) ?_
     refine Sb (fun _=>True) (by
      intro l u W hl hp hF hG hi K hK
      have h:Js w8 Lb k y (l 0) (l 4) (l 9) (l 10) (l 14) (l 15) (u 0) (u 4) (u 9) (u 10) (u 14) (u 15) W:=hF.o
      rw[hl]at h
      simp[Region.binds,Et]at hp
      obtain⟨b,c,e4,ho⟩:=h.s4 (by simp[hp]) rfl
      obtain⟨b9,e9,_,hb9,hc9,_,_⟩:=h.s9 (by simp[hp]) rfl
      have hb:=ho.lt b rfl
      simp only[Region.wanted,if_true]
      refine Gj W (.tmp 54) (.tmp 59) 31 rfl w8.heap.size 9 (.string ⟨#[]⟩) 16 underlying31 Ef (by decide) b k c (Ah (Lb.take k)) ?_ (some ⟨b9,0,none⟩) 1 1 [.string ⟨y.toArray⟩] ?_ ?_ (by simp[Value.oneCell']) ho (by unfold maxLen;omega) (by omega) h.bel.size ?_
      ·simp[hp,e4];rfl
      ·simp[hp,e9];rfl
      ·refine⟨rfl,by decide,fun _=>⟨b9,0,rfl,hb9,fun j u hj=>?_⟩⟩
       match j,hj with
       |0,hj=>simp at hj;subst hj;exact hc9
      intro g' c' w' ho' hg' _
      refine hK _ _ _ Ab ?_ rfl
      exact h.op10 (by simp[hp]) (by simp[hp]) hb.1 (by rw[show Ah (Lb.take k)++[.string ⟨y.toArray⟩]=Ah (Lb.take k++[y])by simp[Ah]]at ho';exact ho') hg' _ rfl) ?_
     refine sqI 15 ?_
     refine sq ?_
     refine sq ?_
     refine Sb (fun _=>True) (by
      intro l u W hl hp hF hG hi K hK
      have h:Js w8 Lb k y (l 0) (l 4) (l 9) (l 10) (l 14) (l 15) (u 0) (u 4) (u 9) (u 10) (u 14) (u 15) W:=hF.o
      rw[hl]at h
      simp[Region.binds,Et]at hp
      obtain⟨b,c,e10,ho⟩:=h.s10 (by simp[hp]) rfl
      have hb:=ho.lt b rfl
      simp only[Region.wanted,if_true]
      refine Gj W (.tmp 60) (.tmp 63) 31 rfl w8.heap.size 9 (.string ⟨#[]⟩) 16 underlying31 Ef (by decide) b (k+1) c (Ah (Lb.take k++[y])) ?_ (if cb=k then some ⟨gb,0,none⟩else some ⟨gb,k,none⟩) (m - k) (cb - k) (Ah (Lb.drop k)) ?_ ?_ (Fi _) ho (by unfold maxLen;omega) (by omega) h.bel.size ?_
      ·simp[hp,e10];rfl
      ·simp[hp];rfl
      ·by_cases hck:cb=k
       ·have e0:m - k=0:=by omega
        rw[e0,show Lb.drop k=[]from List.drop_eq_nil_of_le (by omega)]
        exact⟨rfl,Nat.zero_le _,fun h=>absurd h (by simp)⟩
       rw[if_neg hck]
       have q:=(Hgbr.o.below h.bel).sub k (m - k) (by omega)
       rw[Nat.zero_add]at q
       rw[show Ah (Lb.drop k)=((Ah Lb).drop k).take (m - k)by rw[show (Ah Lb).drop k=Ah (Lb.drop k)by simp[Ah,List.map_drop],List.take_of_length_le (by rw[Jp,List.length_drop];omega)]]
       exact q
      intro g' c' w' ho' hg' _
      refine hK _ _ _ Ab ?_ rfl
      rw[show Ah (Lb.take k++[y])++Ah (Lb.drop k)=Ah (Lb.take k++y::Lb.drop k)by simp[Ah],show k+1+(m - k)=Lb.length+1 by omega]at ho'
      rw[show k+1+(m - k)=Lb.length+1 by omega]
      exact h.op14 (by simp[hp]) hb.1 ho' hg' _ rfl) ?_
     refine Sb (fun _=>True) (by
      intro l u W hl hp hF hG hi K hK
      have h:Js w8 Lb k y (l 0) (l 4) (l 9) (l 10) (l 14) (l 15) (u 0) (u 4) (u 9) (u 10) (u 14) (u 15) W:=hF.o
      simp[Region.binds,Et]at hp
      have h15:=hl
      clear hG hi
      have HF:=Aa h
      clear h
      go_simp
      refine hK (u 14) _ _ Ab ?_ (by simp[Act.put,hp])
      have h:=HF.o
      exact⟨h.bel,h.d10,h.d14,fun _=>by simp[hp],h.s0,h.s4,h.s9,h.s10,h.s14,fun _=>rfl⟩) ?_
     intro l u w9 hl _ hR
     have hR:Js w8 Lb k y (l 0) (l 4) (l 9) (l 10) (l 14) (l 15) (u 0) (u 4) (u 9) (u 10) (u 14) (u 15) w9:=hR
     obtain⟨g8,c8,e14,ho8⟩:=hR.s14 (hl 14 (by decide))
     rw[hlLb]at e14 ho8
     have e15:=(hR.s15 (hl 15 (by decide))).trans e14
     have hb8:=hR.bel
     simp only[e15]
     clear hl hR e14 e15
     have h77:=Ho7.o.lt g7 rfl
     have h88:=ho8.lt g8 rfl
     have Hn2:=Aa (show g7≠g8 by omega)
     have Hoa2:=Aa (show Mw w.heap.size w9 g7 (m+1) c7 ((Gd (·.1) ((names.zip texts).take (m+1))).map (·.1))by rw[Hxa.o];exact Tl (Bl Ho7.o hb8) (by have:=Hbr.o.size;have:=Hbj.o.size;omega))
     have Hob2:=Aa (show Mw w.heap.size w9 g8 (m+1) c8 ((Gd (·.1) ((names.zip texts).take (m+1))).map (·.2))by rw[Hxb.o];exact Tl ho8 (by have:=Hbr.o.size;have:=Hbj.o.size;omega))
     have Hb9:=Aa (Hbr.o.trans ((Hb7.o.trans (hb8.mono Hb7.o.size)).mono Hbr.o.size))
     clear hb8 ho8 h77 h88 hcy hly
     go_wp2_with fail
     go_roundw
     case rel=>exact⟨m+1,g7,c7,g8,c8,by go_num,rfl,rfl,by omega,Hn2.o,Hoa2.o,Hob2.o,Hb9.o⟩
     case measure=>simp[intOf];omega
  ·obtain rfl:m=n:=by omega
   have ht:(names.zip texts).take m=names.zip texts:=List.take_of_length_le (by simp;omega)
   rw[ht]at Hoa Hob
   go_wp2_with fail
   go_ret2
   exact⟨ga,ca,gb,cb,rfl,Hoa.o,Hob.o,Hne.o,Hbr.o⟩
theorem Vu(c:UInt8)(p:List UInt8):∀(l:List (List UInt8)),Ar c (l++[p])=if l=[]then p else Ar c l++c::p
 |[]=>rfl
 |[q]=>rfl
 |q::r::l=>by
  have ih:=Vu c p (r::l)
  rw[if_neg (by simp)]at ih ⊢
  rw[List.cons_append,Cl c q (by simp),ih,Cl c q (by simp)]
  simp
theorem Yx(c:UInt8)(m:Nat):∀(l:List (List UInt8)),(∀p∈l,p.length<=m)->(Ar c l).length<=l.length*(m+1)
 |[],_=>by simp[Ar]
 |[q],h=>by have:=h q (by simp);simp[Ar];omega
 |q::r::l,h=>by
  have h1:=h q (by simp)
  have h2:=Yx c m (r::l) (fun p hp=>h p (by simp[hp]))
  rw[Cl c q (by simp),List.length_append,List.length_cons,List.length_cons,Nat.add_mul]
  omega
theorem Qep(A:Option Addr)(c:Nat)(ps:List (List UInt8))(w:World)(hr:Bj w A ps.length (Ah ps))(hl:ps.length<=100)(hp:∀p∈ps,p.length<=10000):
  Calls prog 59 #[.slice A ps.length c] w fun e w'=>e=.returned (.string ⟨(Ar 44 ps).toArray⟩)/\w=w':=by
 have Hr:=Aa hr
 have Hp:=Aa hp
 clear hr hp
 go_enter func59,ntmps59
 go_wp2_with fail
 go_loop [4,3] (fun i s=>∃k:Nat,i=.int .i64 k/\k<=ps.length/\s=.string ⟨(Ar 44 (ps.take k)).toArray⟩) (fun i _=>ps.length - (intOf i).toNat)
 case atStart=>exact⟨0,rfl,Nat.zero_le _,rfl⟩
 case round=>
  obtain⟨k,rfl,hk,rfl⟩:=hrel
  have k1:(0:Int)<=(k:Int):=by omega
  have hjl:=Yx 44 10000 (ps.take k) (fun p hp=>Hp.o p (List.mem_of_mem_take hp))
  rw[List.length_take,Nat.min_eq_left hk]at hjl
  by_cases hlt:k<ps.length
  ·have k2:(k:Int)<(ps.length:Int):=by omega
   obtain⟨b,off,rfl,hb,hc⟩:=Hr.o.at_ hlt
   have c0:w.cell? ⟨b,off+k,none⟩=some (.string ⟨ps[k].toArray⟩):=by rw[hc];simp[Ah]
   have Hsn:=Aa (show Ar 44 (ps.take (k+1))=if ps.take k=[]then ps[k]else Ar 44 (ps.take k)++44::ps[k]from by rw[Bt ps k hlt];exact Vu 44 ps[k] (ps.take k))
   have hpl:=Hp.o _ (List.getElem_mem hlt)
   have He:Hid (ps.take k=[]↔k=0):=by
    constructor
    ·intro h
     have:=congrArg List.length h
     rw[List.length_take,Nat.min_eq_left hk]at this
     simpa using this
    rintro rfl;rfl
   generalize ps[k]=p at c0 Hsn hpl
   clear hc
   by_cases h0:k=0
   ·have h0i:¬(0:Int)<(k:Int):=by omega
    have Hs2:=Aa (Hsn.o.trans (if_pos (He.o.2 h0)))
    have hj0:Ar 44 (ps.take k)=[]:=by rw[He.o.2 h0];rfl
    rw[hj0]
    clear h0 hjl hj0
    go_wp2_with fail
    go_round
    case rel=>exact⟨k+1,by go_num,by omega,by rw[Hs2.o]⟩
    case measure=>simp[intOf];omega
   have h0i:(0:Int)<(k:Int):=by omega
   have Hs2:=Aa (Hsn.o.trans (if_neg (fun h=>h0 (He.o.1 h))))
   generalize Ar 44 (ps.take k)=js at *
   clear h0
   go_wp2_with fail
   go_round
   case rel=>exact⟨k+1,by go_num,by omega,by rw[Hs2.o]⟩
   case measure=>simp[intOf];omega
  ·obtain rfl:k=ps.length:=by omega
   have Hfin:Hid (ps.take ps.length=ps):=List.take_length
   go_wp2_with fail
   go_ret
   exact⟨by first|rfl|rw[Hfin.o],rfl⟩
def sfR:Option Fd->Value
 |some f=>.tuple #[sfV f,.bool true]
 |none=>.tuple #[sf0,.bool false]
theorem Xe(st nm fv:Value)(fs:List Fd)(n:Nat)(w:World)(h:Dl w fv fs)(hn:n<=1000000000):
  Calls prog 57 #[.agg #[st,nm,fv],.int .i64 n] w fun e w'=>e=.returned (sfR (Bf fs n))/\Below w w w':=by
 obtain⟨A,c,rfl,hl,hr⟩:=h;have Hr:=Aa hr;clear hr;go_enter func57,ntmps57;go_wp2_with fail;go_loopw [6] (fun i wr=>∃k:Nat,i=.int .i64 k/\k<=fs.length/\wr=(w.alloc (.cells #[st,nm,.slice A fs.length c] 90)).alloc (.cells #[.int .i64 0,aa,aa,aa] 94)/\Hid (∀f∈fs.take k,decide (f.tag=n)=false)) (fun i _=>fs.length - (intOf i).toNat)
 case atStart=>exact⟨0,rfl,ah _,rfl,by intro f hf;simp at hf⟩
 case round=>
  obtain⟨k,rfl,hk,rfl,hin⟩:=hrel;by_cases hlt:k<fs.length
  ·obtain⟨b,off,rfl,hb,c0,c1,c2,c3⟩:=Dl.at_ Hr.o hlt;have Hts:=Aa (Bt fs k hlt);have Hft:=Aa (Rn (p:=fun f=>decide (f.tag=n)) hlt hin.o);generalize fs[k]=f at c0 c1 c2 c3 Hts Hft;have k1:(0:Int)<=(k:Int):=aH;have k2:(k:Int)<(fs.length:Int):=aH;by_cases he:f.tag=n
   ·have t1:((f.tag:Int) == (n:Int))=true:=by simp[he]
    have Hfin:=Aa (show Bf fs n=some f by unfold Bf;rw[Hft.o,if_pos cP]);clear he;go_wp2_with fail;exact aF (v:=.tuple #[sfV f,.bool true]) (by simp[results,results57,go_sem,sfV]) rfl ⟨by rw[Hfin.o];rfl,((At _ _).alloc (Ao _) _).alloc aM _⟩
   have t1:((f.tag:Int) == (n:Int))=false:=cf
   have Hin:=Aa (show ∀g∈fs.take (k+1),decide (g.tag=n)=false by
    intro g hg;rw[Hts.o]at hg;rcases ag.1 hg with hg|hg
    ·exact hin.o g hg
    simp at hg;subst hg;simpa using he)
   clear he;go_wp2_with fail;go_roundw
   case rel=>exact⟨k+1,by go_num,by omega,Ab,Hin.o⟩
   case measure=>simp[intOf];omega
  ·have Hfin:=@Aa (Bf fs n=none) (Mi (fun f hf=>hin.o f dp));go_wp2_with fail;exact aF (v:=.tuple #[sf0,.bool false]) (by simp[results,results57,go_sem,sf0]) rfl ⟨by rw[Hfin.o];rfl,((At _ _).alloc (Ao _) _).alloc aM _⟩
def Rv:Option (Ty × Value)->Value
 |some x=>.tuple #[Pw x.1 x.2,.bool true]
 |none=>.tuple #[Nl,.bool false]
theorem Rt(v:Value)(xs:List (Ty × Value))(n:List UInt8)(w:World)(h:Ge w v xs):
  Calls prog 88 #[v,n] w fun e w'=>e=.returned (Rv (Eb xs n))/\Below w w w':=by
 obtain⟨A,c,rfl,hl,hr,hf⟩:=h;have Hr:=Aa hr;have Hf:=Aa hf;clear hr hf;go_enter func88,ntmps88;go_wp2_with fail;go_loopw [6] (fun i wr=>∃k:Nat,i=.int .i64 k/\k<=xs.length/\wr=w.alloc (.cells #[.int .u8 0,aa,.slice none 0 0] 90)/\Hid (∀x∈xs.take k,decide (x.1.name=n)=false)) (fun i _=>xs.length - (intOf i).toNat)
 case atStart=>exact⟨0,rfl,ah _,rfl,by intro f hf;simp at hf⟩
 case round=>
  obtain⟨k,rfl,hk,rfl,hin⟩:=hrel;by_cases hlt:k<xs.length
  ·obtain⟨b,off,rfl,hb,c0,c1,c2⟩:=Ge.at_ Hr.o hlt;have Hts:=Aa (Bt xs k hlt);have Hft:=Aa (Rn (p:=fun x=>decide (x.1.name=n)) hlt hin.o);have hfx:=Hf.o _ (af hlt);generalize xs[k]=x at c0 c1 c2 Hts Hft hfx;obtain⟨t,fv⟩:=x;simp only[]at c0 c1 c2 hfx;obtain⟨A2,d2,hfv,_⟩:=hfx;subst hfv;have k1:(0:Int)<=(k:Int):=aH;have k2:(k:Int)<(xs.length:Int):=aH;by_cases he:t.name=n
   ·have t1:(t.name == n)=true:=by simp[he]
    have Hfin:=Aa (show Eb xs n=some (t,.slice A2 t.fields.length d2)by unfold Eb;rw[Hft.o,if_pos cP]);clear he;go_wp2_with fail;refine aF (v:=.tuple #[Pw t (.slice A2 t.fields.length d2),.bool true]) (by simp[results,results88,go_sem,Pw]) rfl ?_;exact iY
   have t1:(t.name == n)=false:=cP
   have Hin:=Aa (show ∀g∈xs.take (k+1),decide (g.1.name=n)=false by
    intro g hg;rw[Hts.o]at hg;rcases ag.1 hg with hg|hg
    ·exact hin.o g hg
    simp at hg;subst hg;simpa using he)
   clear he;go_wp2_with fail;go_roundw
   case rel=>exact⟨k+1,by go_num,by omega,Ab,Hin.o⟩
   case measure=>simp[intOf];omega
  ·have Hfin:=@Aa (Eb xs n=none) (Mi (fun f hf=>hin.o f dp));go_wp2_with fail;refine aF (v:=.tuple #[Nl,.bool false]) (by simp[results,results88,go_sem,Nl]) rfl ?_;exact iY
theorem Qiq{k:Kd}(h:Cu k):(k.signs=[]/\k.base=[64]/\Bn k=64::(k.name++[59])/\k.name.length<=3)\/(¬(k.signs=[]/\k.base=[64])/\∃c t,Bn k=c::t/\c≠64/\t.length<=12):=by
 obtain⟨h1,h2,h3⟩:=h;cases hs:k.signs with
 |cons c t=>
  refine .inr ⟨by simp,c,t++Cm k,by unfold Bn;rw[hs];rfl,?_,?_⟩
  ·rw[hs]at h1;simp only[List.all_cons,aw]at h1;rintro rfl;exact absurd h1.1 aL
  unfold Bn at h3;rw[hs]at h3;simp at h3 ⊢;omega
 |nil=>
  rcases h2 with⟨hb,hn⟩|⟨hb,_⟩
  ·exact .inl ⟨rfl,hb,by unfold Bn Cm;rw[hs,if_pos hb];rfl,(Dp.1 hn).2.1⟩
  refine .inr ⟨?_,?_⟩
  ·rintro⟨_,h⟩;rcases hb with hb|hb|hb<;>· rw[hb]at h;revert h;decide
  have hc:Bn k=k.base:=by
   unfold Bn Cm;rw[hs,if_neg (by rcases hb with hb|hb|hb<;>· rw[hb];decide)];rfl
  rw[hc];rcases hb with hb|hb|hb<;>· rw[hb];exact⟨_,_,rfl,by decide,by simp⟩
theorem Ev(v:Value)(xs:List (Ty × Value))(k:Kd)(w:World)(h:Ge w v xs)(hk:Cu k):
  Calls prog 56 #[v,.string ⟨(Bn k).toArray⟩] w fun e w'=>e=.returned (Rv (H4 xs k))/\Below w w w':=by
 have H:=Aa h;clear h;rcases Qiq hk with⟨h1,h2,h3,h4⟩|⟨h1,c,t,h3,h4,h5⟩
 ·have Hr:=@Aa (H4 xs k=Eb xs k.name) (if_pos ⟨h1,h2⟩);rw[h3];clear h1 h2 h3;go_enter func56,ntmps56;go_wp2_with fail;refine(Yi k.name _ aH).mono ?_;rintro e w' ⟨rfl,rfl⟩;go_wp2_with fail;refine(Rt v xs k.name _ (H.o.below ((At _ _).alloc (Ao _) _))).mono ?_;rintro e w2 ⟨rfl,hb⟩;cases hf:Eb xs k.name with
  |none=>
   rw[hf]at Hr;obtain⟨hc,hfz,hz⟩:=By hb;have Hb:=Aa (((At w.heap.size w).alloc (Ao _) _).trans (hb.mono aM));clear hb hf;unfold Rv Nl;go_wp2_with fail;refine aF (v:=.tuple #[Nl,.bool false]) (by simp[results,results56,go_sem,Nl,hc]) rfl ?_;exact iZ
  |some x=>
   obtain⟨t,fv⟩:=x;have hm:=(Co hf).1;obtain⟨A,c,_,_,_,hfs⟩:=H.o;obtain⟨A2,d2,e2,_⟩:=hfs _ hm;simp only at e2;subst e2;rw[hf]at Hr;obtain⟨hc,hfz,hz⟩:=By hb;have Hb:=Aa (((At w.heap.size w).alloc (Ao _) _).trans (hb.mono aM));clear hb hf hm hfs;unfold Rv Pw;go_wp2_with fail;refine aF (v:=.tuple #[Pw t (.slice A2 t.fields.length d2),.bool true]) (by simp[results,results56,go_sem,Pw,hc]) rfl ?_;exact iZ
 have Hr:=@Aa (H4 xs k=none) (if_neg h1);rw[h3];clear h1 h3;go_enter func56,ntmps56;go_wp2_with fail;refine(Qbf c t _ h4 aH).mono ?_;rintro e w' ⟨rfl,rfl⟩;go_wp2_with fail;refine aF (v:=.tuple #[Nl,.bool false]) (by simp[results,results56,go_sem,Nl]) rfl ?_;exact⟨by rw[Hr.o];rfl,(At _ _).alloc (Ao _) _⟩
def Kb(s d x:List UInt8)(w:World)(e:Ending)(w':World):Prop:=Below w.heap.size w w'/\match C0 s d with
 |none=>∃v q,e=.returned (.tuple #[v,.pointer q,.bool false])
 |some y=>match J1 y.1 y.2 x with
  |none=>∃v q,e=.returned (.tuple #[v,.pointer q,.bool false])
  |some v=>∃xv xs b,e=.returned (.tuple #[xv,.pointer (some ⟨b,0,none⟩),.bool true])/\Af xs=y.1/\Ge w' xv xs/\Gb (fun c=>w.heap.size<=c) w' b (B6 y.1 y.2 v)
def Vg(o:Option (List UInt8))(w:World)(e:Ending)(w':World):Prop:=e=.returned (.tuple #[.string ⟨(o.getD []).toArray⟩,.bool o.isSome])/\Below w.heap.size w w'
theorem Kb.cases{s d x:List UInt8}{w w1:World}{e:Ending}(h:Kb s d x w e w1):Below w.heap.size w w1/\((Tz (C0 s d) x=none/\∃(v:Value) (q:Option Addr),e=.returned (.tuple #[v,.pointer q,.bool false])) \/
  ∃S k v xv xs b,C0 s d=some (S,k)/\Tz (C0 s d) x=some v/\e=.returned (.tuple #[xv,.pointer (some ⟨b,0,none⟩),.bool true])/\Af xs=S/\Ge w1 xv xs/\Gb (fun c=>w.heap.size<=c) w1 b (B6 S k v)):=by
 obtain⟨hb1,hm⟩:=h
 refine⟨hb1,?_⟩
 cases hb:C0 s d with
 |none=>
  rw[hb]at hm
  obtain⟨v,q,he⟩:=hm
  exact .inl ⟨rfl,v,q,he⟩
 |some y=>
  rw[hb]at hm
  simp only at hm
  cases hv:J1 y.1 y.2 x with
  |none=>
   rw[hv]at hm
   obtain⟨v,q,he⟩:=hm
   exact .inl ⟨hv,v,q,he⟩
  |some v=>
   rw[hv]at hm
   obtain⟨xv,xs,b,he,h1,h2,hat⟩:=hm
   exact .inr ⟨y.1,y.2,v,xv,xs,b,rfl,hv,he,h1,h2,hat⟩
theorem Qdy{o:Option (List Ty × Kd)}{x:List UInt8}{f:List Ty->Kd->Vl->Option (List UInt8)}(h:Tz o x=none):vlB o x f=none:=by
 cases o with
 |none=>rfl
 |some y=>have h:J1 y.1 y.2 x=none:=h;simp[vlB,h]
theorem Qhz{S:List Ty}{d:Nat}{k:Kd}{v:Vl}(h:Gy S (d+1) k v)(h2:v.what≠82):∃tx tags kids,B6 S k v=.mk (Bn k) tx tags kids/\tx≠[82]:=by
 cases h with
 |@n _ _ m hs hb h=>
  refine⟨_,_,_,Z5 _ _ _,fun e=>?_⟩
  have:=Km m
  rw[e]at this
  revert this
  decide
 |@t _ _ s hs hb h=>exact⟨_,_,_,Xb _ _ _,fun e=>by injection e with e;exact absurd e (by decide)⟩
 |@f _ _ x hs hb=>exact⟨_,_,_,Xf _ _ _,by cases x<;>decide⟩
 |lst=>exact⟨_,_,_,Qw _ _ _,by decide⟩
 |non=>exact⟨_,_,_,Mv _ _ _,by decide⟩
 |som=>exact⟨_,_,_,Mv _ _ _,by decide⟩
 |enm=>exact⟨_,_,_,Q8 _ _ _,by decide⟩
 |uni=>exact⟨_,_,_,N3 _ _ _ _,by decide⟩
 |rcd=>exact absurd rfl h2
theorem Qel{W W':World}{base n g m c:Nat}{e:TypeId}{v:Value}{xs:List Value}(h:W'.ownsRow base e 1 v n xs)(hw:v.ownBlock=(Value.slice (some ⟨g,0,none⟩) m c).ownBlock\/∃k,v.ownBlock=some k/\W.heap.size<=k):∃g' c',v=.slice (some ⟨g',0,none⟩) n c':=by
 rcases h.2 with⟨rfl,_⟩|⟨g',cap,cur,rfl,_⟩
 ·rcases hw with hw|⟨k,hw,_⟩<;>cases hw
 exact⟨g',cap,rfl⟩
theorem Qga(s d x:List UInt8)(w:World)(HO:Calls prog 39 #[.string ⟨s.toArray⟩,.string ⟨d.toArray⟩,.string ⟨x.toArray⟩] w (Kb s d x w)):
  Calls prog 28 #[.string ⟨s.toArray⟩,.string ⟨d.toArray⟩,.string ⟨x.toArray⟩] w (Vg (vlB (C0 s d) x Ma) w):=by
 have HO:=Aa HO
 go_enter func28,ntmps28
 go_wp2_with fail
 refine HO.o.mono ?_
 rintro e w1 hpost
 obtain⟨hb1,⟨hv,v,q,rfl⟩|⟨S,k,v,xv,xs,b,hb,hv,rfl,hxs,hsc,hat⟩⟩:=hpost.cases
 ·have HV:=Aa (Qdy (f:=Ma) hv)
  have Hb1:=Aa hb1
  clear hv hpost hb1
  go_wp2_with fail
  go_ret2
  exact⟨by rw[HV.o];rfl,Hb1.o⟩
 obtain⟨S',k',e1,hok,hk,_,hkd,hvok,hpr,hxl⟩:=Rx hv
 rw[hb]at e1
 injection e1 with e1
 injection e1 with e1 e2
 subst e1 e2
 have hS:=hok.1.1
 have Hb1:=Aa hb1
 have HE:=Aa (show vlB (C0 s d) x Ma=Ma S k v by
  rw[hb]
  have h:J1 S k x=some v:=by rw[hb]at hv;exact hv
  simp[vlB,h])
 by_cases h82:v.what=82
 ·cases hvok with
  |n=>exact absurd h82 (by simp[Vl.what])
  |t=>exact absurd h82 (by simp[Vl.what])
  |f=>exact absurd h82 (by simp[Vl.what])
  |lst=>exact absurd h82 (by simp[Vl.what])
  |non=>exact absurd h82 (by simp[Vl.what])
  |som=>exact absurd h82 (by simp[Vl.what])
  |enm=>exact absurd h82 (by simp[Vl.what])
  |uni=>exact absurd h82 (by simp[Vl.what])
  |@rcd _ _ t fs hs hbs ht h2 hf h hn hp=>
   have hkd2:d=64::(k.name++[59]):=by rw[<-hkd];unfold Bn Cm;rw[hs,if_pos hbs];rfl
   have HE2:=Aa (HE.o.trans (if_pos h82))
   have hfew:=Qaf hS ht hf hp
   have hfx:∃tv,Eb xs k.name=some (t,tv):=by
    rw[<-hxs,G1]at ht
    cases hq:Eb xs k.name with
    |none=>rw[hq]at ht;cases ht
    |some y=>rw[hq]at ht;simp at ht;subst ht;exact⟨y.2,rfl⟩
   obtain⟨tv,hfx⟩:=hfx
   have hfd:Dl w1 tv t.fields:=by obtain⟨_,_,_,_,_,hscf⟩:=hsc;exact hscf (t,tv) (Co hfx).1
   obtain⟨A5,c5,rfl,hl5,hr5⟩:=hfd
   have hfd:Dl w1 (.slice A5 t.fields.length c5) t.fields:=⟨A5,c5,rfl,hl5,hr5⟩
   have hrx:H4 xs k=some (t,.slice A5 t.fields.length c5):=by unfold H4;rw[if_pos ⟨hs,hbs⟩];exact hfx
   have HR:=Aa (fun W (hW:Below w1.heap.size w1 W)=>Ev xv xs k W (hsc.below hW) hk)
   rw[hrx,hkd]at HR
   rw[Qu,hkd]at hat
   obtain⟨A1,A2,c1,c2,ys,hbl,_,h0,h1,g2,_,r1,_⟩:=hat.open_
   rw[List.length_map]at g2 r1
   have Hft:=Aa hf
   have Hnm:=Aa (fun p (hp:p∈fs)=>(Dp.1 ((hS t (Bv ht).1).2.2.1.1 p.1 (Cd (hf p hp)).2).2.2.1).2.1)
   have Htg:=Aa (fun p (hp:p∈fs)=>((hS t (Bv ht).1).2.2.1.1 p.1 (Cd (hf p hp)).2).2.1)
   have Hfd:=Aa hfd
   have Hr1:=Aa r1
   have HF:=Aa (show ((Gd (·.1) ((fs.map (·.1.name)).zip (fs.map (·.1.name)))).map (·.1))=(byN S k (fs.map Dk)).map fun y=>Da S k y.tag by
    have e:fs.map (·.1.name)=(fs.map Dk).map fun y=>Da S k y.tag:=by
     rw[List.map_map]
     exact List.map_congr_left fun p hp=>(H9 ht (hf p hp)).symm
    rw[e,Qhy S k (fs.map Dk) (fun y=>Da S k y.tag),List.map_map];rfl)
   have HLn:=Aa (show ((byN S k (fs.map Dk)).map fun y=>Da S k y.tag).length=fs.length/\∀p∈(byN S k (fs.map Dk)).map (fun y=>Da S k y.tag),p.length<=3 by
    refine⟨by rw[List.length_map,byN,(Gu _ _).length_eq,List.length_map],fun p hp=>?_⟩
    obtain⟨y,hy,rfl⟩:=List.mem_map.1 hp
    obtain⟨q,hq,rfl⟩:=List.mem_map.1 ((Gu _ _).mem_iff.1 hy)
    show (Da S k q.1.tag).length<=3
    rw[H9 ht (hf q hq)]
    exact Hnm.o q hq)
   subst hkd2
   clear hpost hb1 hb hv hok hk hkd hpr hS hat hsc hfd h82 hfx hrx hr5 hs hbs ht h2 hf h hn hp r1 HE hxs
   unfold Rv Pw at HR
   go_wp2_with fail
   refine(HR.o _ (At _ _)).mono ?_
   rintro e w2 ⟨rfl,hb2⟩
   have Hb2:=Aa hb2
   have k2:=(hb2.cell (p:=⟨b,2,none⟩) hbl).trans g2
   have hbl2:b<w2.heap.size:=Nat.lt_of_lt_of_le hbl hb2.size
   have Hr2:=Aa (Hr1.o.below hb2)
   have Hfd2:=Aa (Hfd.o.below hb2)
   clear hb2 HR
   go_wp2_with fail
   generalize hw3:World.alloc (World.alloc w2 _) _=w3
   have hb3:Below w2.heap.size w2 w3:=by rw[<-hw3];exact((At _ _).alloc (Ao _) _).alloc (by simp) _
   have ho3:Mw (w2.heap.size+1) w3 (w2.heap.size+1) 0 0 []:=by rw[<-hw3];have:=Pp (w2.alloc (.cells #[.int .u8 (t.sort.toNat:Int),.string ⟨t.name.toArray⟩,.slice A5 t.fields.length c5] 90)) 9 (w2.heap.size+1) (by simp);show World.ownsRow _ _ _ _ _ _ _;simpa [Ah]using this
   have j0:w3.cell? ⟨w2.heap.size,0,none⟩=some (.int .u8 (t.sort.toNat:Int)):=by rw[<-hw3];simp[go_sem]
   have j1:w3.cell? ⟨w2.heap.size,1,none⟩=some (.string ⟨t.name.toArray⟩):=by rw[<-hw3];simp[go_sem]
   have j2:w3.cell? ⟨w2.heap.size,2,none⟩=some (.slice A5 t.fields.length c5):=by rw[<-hw3];simp[go_sem]
   have hz3:w3.heap.size=w2.heap.size+2:=by rw[<-hw3];simp
   have Hb3:=Aa hb3
   have Ho3:=Aa ho3
   clear hw3 hb3 ho3
   go_loopw [14,13,15,16] (fun i u y z wr=>∃(m g c:Nat),i=.int .i64 m/\u=.slice (some ⟨g,0,none⟩) m c/\m<=fs.length/\Hid (Mw (w2.heap.size+1) wr g m c ((fs.take m).map (·.1.name)))/\Hid (Below (w2.heap.size+1) w3 wr)) (fun i _ _ _ _=>fs.length - (intOf i).toNat)
   case atStart=>exact⟨0,w2.heap.size+1,0,rfl,rfl,Nat.zero_le _,Ho3.o,At _ _⟩
   case round=>
    obtain⟨m,g,c,rfl,rfl,hm,Hog,Hbr⟩:=hrel
    have m1:(0:Int)<=(m:Int):=by omega
    have hsz:=Hbr.o.size
    have hsz':w2.heap.size+1<=wr.heap.size:=by omega
    have e2:=(Hbr.o.cell (p:=⟨b,2,none⟩) (show b<_ by omega)).trans ((Hb3.o.cell (p:=⟨b,2,none⟩) hbl2).trans k2)
    have hlb:b<wr.heap.size:=by omega
    have Hb2r:=Aa (Hb3.o.trans (Hbr.o.mono (Nat.le_add_right _ 1)))
    by_cases hlt:m<fs.length
    ·have m2:(m:Int)<(fs.length:Int):=by omega
     have f0:=(Hbr.o.cell (p:=⟨w2.heap.size,0,none⟩) (show w2.heap.size<_ by omega)).trans j0
     have f1:=(Hbr.o.cell (p:=⟨w2.heap.size,1,none⟩) (show w2.heap.size<_ by omega)).trans j1
     have f2:=(Hbr.o.cell (p:=⟨w2.heap.size,2,none⟩) (show w2.heap.size<_ by omega)).trans j2
     have hl2:w2.heap.size<wr.heap.size:=by omega
     obtain⟨b6,o6,rfl,hb6,hc6⟩:=(Hr2.o.below Hb2r.o).at_ hlt
     replace hc6:wr.cell? ⟨b6,o6+m,none⟩=some (.int .i64 (fs[m].1.tag:Int)):=by simpa [Dj]using hc6
     have hnm:=Hnm.o fs[m] (List.getElem_mem hlt)
     have htg:=Htg.o fs[m] (List.getElem_mem hlt)
     have HX:=Aa (fun W (hW:Below wr.heap.size wr W)=>Xe (.int .u8 (t.sort.toNat:Int)) (.string ⟨t.name.toArray⟩) (.slice A5 t.fields.length c5) t.fields fs[m].1.tag W (Hfd2.o.below (Hb2r.o.trans (hW.mono Hb2r.o.size))) (by omega))
     rw[Hft.o fs[m] (List.getElem_mem hlt)]at HX
     unfold sfR at HX
     have Hsn:=Aa (show (fs.take (m+1)).map (·.1.name)=(fs.take m).map (·.1.name)++[fs[m].1.name]by rw[Bt fs m hlt,List.map_append];rfl)
     generalize fs[m].1=f at *
     go_wp2_with fail
     refine rgF (fun l u W=>Px wr (Ta f) (l 12) (l 13) (u 12) W) (Gi wr) (fun _ _ _ h=>H8 h.1) Px.start ?_
     iterate 8 refine sq ?_
     refine sqB (fun _ _ _ h=>h.1) (fun _ _ _ _ h hb=>h.below hb) HX.o ?_
     iterate 3 refine sq ?_
     refine Sb (fun _=>True) (by
      intro l u W hl hp hF hG hi K hK
      have h:Px wr (Ta f) (l 12) (l 13) (u 12) W:=hF.o
      rw[hl]at h
      have Hh:=Aa (h.alloc [.int .i64 0,.string ⟨#[]⟩,.string ⟨#[]⟩,.string ⟨#[]⟩] rfl 94)
      clear h hp hi hG
      go_simp
      exact hK _ _ _ Ab Hh.o rfl) ?_
     refine Sb (fun _=>True) (by
      intro l u W hl hp hF hG hi K hK
      have h:Px wr (Ta f) (l 12) (l 13) (u 12) W:=hF.o
      simp[Region.binds,Et]at hp
      obtain⟨b9,e9,_,_,h9,_⟩:=h.2.2 (by simp[hp])
      simp only[Region.wanted,if_true]
      unfold sfV at hp
      refine wp_store_mid 94 _ _ rfl b9 0 (Ta f).toArray (by simp[e9];rfl) (by simp[hp];rfl) h9 (by kernel_rfl) (by simp[Ta,Value.oneCell']) ?_
      exact hK undef _ _ Ab (h.store (by simp[hp]) e9) rfl) ?_
     refine sq ?_
     intro l u W hl _ hR
     have hR:Px wr (Ta f) (l 12) (l 13) (u 12) W:=hR
     obtain⟨b9,e9,hb9,hl9,_,hrg⟩:=hR.2.2 (hl 12 (by decide))
     have q1:W.cell? ⟨b9,1,none⟩=some (.string ⟨f.name.toArray⟩):=by have:=Ac (hrg (hl 13 (by decide))) 1 rfl;simpa using this
     have Ho4:=Aa (Bl Hog.o hR.1)
     have Hb4:=Aa (Hbr.o.trans (hR.1.mono hsz'))
     have hs4:w2.heap.size+1<=W.heap.size:=by have:=hR.1.size;omega
     simp only[e9]
     clear hl hR e9 hrg f0 f1 f2 hc6 e2 HX
     go_wp2_with (at_builtin;refine Ga _ rfl _ _ 31 rfl (w2.heap.size+1) 9 (.string ⟨#[]⟩) 16 underlying31 Ef rfl W (.string ⟨f.name.toArray⟩) rfl rfl (.slice (some ⟨g,0,none⟩) m c) m (Ah ((fs.take m).map (·.1.name))) rfl rfl Ho4.o (by unfold maxLen;omega) (by omega) hs4 ?_;intro v' w5 hown5 hg5 hwh5;obtain⟨g5,c5',rfl⟩:=Qel hown5 hwh5;have Ho:=Aa hown5;have Hb5:=Aa (Hb4.o.grown hg5 (by have:=Hb4.o.size;omega) (fun k hk=>(Ho4.o.lt k hk).1));clear hown5 hg5 hwh5)
     go_roundw
     case rel=>exact⟨m+1,g5,c5',by go_num,rfl,by omega,by show Mw _ _ _ _ _ _;rw[Hsn.o];show World.ownsRow _ _ _ _ _ _ _;rw[Ml];exact Ho.o,Hb5.o⟩
     case measure=>simp[intOf];omega
    ·obtain rfl:m=fs.length:=by omega
     obtain⟨A7,c7,e7,hr7⟩:=Bj.own Hog.o
     injection e7 with e71 e72 e73
     subst e71 e73
     rw[List.take_length]at hr7
     have HS:=Aa (fun W (hW:Below wr.heap.size wr W)=>Qfo _ _ fs.length c c _ _ W (hr7.below hW) (hr7.below hW) (by omega))
     rw[HF.o]at HS
     clear hr7
     have HT:=Aa (HE2.o.trans (show _=some (Ar 44 ((byN S k (fs.map Dk)).map fun y=>Da S k y.tag))from rfl))
     generalize (byN S k (fs.map Dk)).map (fun y=>Da S k y.tag)=L at *
     go_wp2_with fail
     refine(HS.o _ (At _ _)).mono ?_
     rintro e w6 ⟨ga,ca,gb,cb,rfl,hoa,_,_,hb6⟩
     obtain⟨A8,c8,e8,hr8⟩:=Bj.own hoa
     injection e8 with e81 e82 e83
     subst e81 e83
     have HJ:=Aa (Qep _ ca L w6 (by rw[HLn.o.1];exact hr8) (by rw[HLn.o.1];omega) (fun p hp=>Nat.le_trans (HLn.o.2 p hp) (by decide)))
     rw[HLn.o.1]at HJ
     have Hb6:=Aa (Hb1.o.trans ((Hb2.o.trans ((Hb2r.o.trans (hb6.mono Hb2r.o.size)).mono Hb2.o.size)).mono Hb1.o.size))
     clear hoa hr8 hb6
     go_wp2_with fail
     refine HJ.o.mono ?_
     rintro e w7 ⟨rfl,rfl⟩
     go_wp2_with fail
     go_ret2
     exact⟨by rw[HT.o];rfl,Hb6.o⟩
 obtain⟨tx,tags,kids,esv,htx⟩:=Qhz hvok h82
 rw[esv]at hat
 obtain⟨A1,A2,c1,c2,ys,hbl,_,h0,h1,_⟩:=hat.open_
 have t1:(tx == [82])=false:=by simpa using htx
 have t2:(tx != [82])=true:=by simpa using htx
 have HE2:=Aa (HE.o.trans (if_neg h82))
 clear hpost hb1 hb hv hok hk hkd hvok hpr hS hat hsc h82 esv htx
 go_wp2_with fail
 go_ret2
 exact⟨by rw[HE2.o];rfl,Hb1.o⟩
theorem N6(s:List UInt8)(f k:Nat)(hf:f<=k)(hk:k<s.length):(s.drop f).take (k+1 - f)=(s.drop f).take (k - f)++[s[k]]:=by
 have h1:k - f<(s.drop f).length:=aN;rw[show k+1 - f=(k - f)+1 by omega,Bt _ _ h1];simp[show f+(k - f)=k by omega]
theorem Tq(s:List UInt8)(f k:Nat)(hf:f<=k)(hk:k<s.length):s.drop f=(s.drop f).take (k - f)++s[k]::s.drop (k+1):=by
 have e1:(s.drop f).drop (k - f)=s[k]::s.drop (k+1):=by
  rw[List.drop_drop,show f+(k - f)=k by omega];exact List.drop_eq_getElem_cons hk
 rw[<-e1,List.take_append_drop]
theorem Cg(s:List UInt8)(c:UInt8)(m:Int)(hm:m=(c.toNat:Int))(w:World)(hs:s.length<=4000000):
  Calls prog 80 #[s,.int .u8 m] w fun e w'=>
   ∃v,e=.returned v/\w'.ownsRow w 9 1 v (Ag c s).length (Ah (Ag c s))/\Below w w w':=by
 have Hm:=Aa hm;have Hlen:=Aa (Gt c s);clear hm;go_enter func80,ntmps80;go_wp2_with fail
 go_loopw [5,6,7] (fun v y i wr=>∃(ps:List (List UInt8)) (f k:Nat),i=.int .i64 k/\k<=s.length/\y=.int .i64 f/\f<=k/\ps.length<=k/\Hid (Ag c s=ps++Ag c (s.drop f))/\Hid (c∉(s.drop f).take (k - f)) /\
   Hid (wr.ownsRow w 9 1 v ps.length (Ah ps))/\Hid (Below w w wr)) (fun _ _ i _=>s.length - (intOf i).toNat)
 case atStart=>exact⟨[],0,0,rfl,ah _,rfl,Ao _,by simp,rfl,by simp[Hid],World.ownsRow_lit (base:=w.heap.size) (e:=9) (size:=1) w #[] 0 (Ao _) (ah _) rfl,(At _ _).alloc (Ao _) _⟩
 case round=>
  obtain⟨ps,f,k,rfl,hk,rfl,hf,hps,hsp,hno,hown,hb⟩:=hrel;by_cases hlt:k<s.length
  ·have hc:=(s[k]).toNat_lt;by_cases he:s[k]=c
   ·have t1:(((s[k]).toNat:Int) == m)=true:=by rw[Hm.o];exact Bq he
    have Hsp:=Aa (show Ag c s=(ps++[(s.drop f).take (k - f)])++Ag c (s.drop (k+1))by
     rw[hsp.o,Tq s f k hf hlt,he,Ja c _ _ hno.o];simp only[List.append_assoc,List.singleton_append];have e2:=Tq s f k hf hlt;rw[he]at e2;rw[<-e2])
    have Hz:=Aa hb.o.size;clear he;have k1:(0:Int)<=(f:Int):=aH;have k2:(f:Int)<=(k:Int):=aH;have k3:(k:Int)<=(s.length:Int):=aH;go_wp2_with (at_builtin;refine Me _ rfl _ _ 31 rfl w 9 aa 16 underlying31 Ef rfl wr _ rfl rfl _ _ _ rfl rfl hown.o bh aH Hz.o ?_;intro v' w' hown' hb';have Ho:=Aa (show w'.ownsRow w 9 1 v' (ps++[(s.drop f).take (k - f)]).length (Ah (ps++[(s.drop f).take (k - f)]))by rw[Pi,ai];exact hown');have Hb:=Aa (hb.o.trans hb');clear hown' hb')
    go_roundw
    case rel=>exact⟨ps++[(s.drop f).take (k - f)],k+1,k+1,by go_num,by omega,by go_num,Ao _,by rw[ai];simp;omega,Hsp.o,by simp[Hid],Ho.o,Hb.o⟩
    case measure=>simp[intOf];omega
   have t1:(((s[k]).toNat:Int) == m)=false:=by rw[Hm.o];exact Aq he
   have Hno:=Aa (show c∉(s.drop f).take (k+1 - f)by
    rw[N6 s f k hf hlt];simp only[ag,aq,not_or];exact⟨hno.o,fun h=>he h.symm⟩)
   clear he;go_wp2_with fail;go_roundw
   case rel=>exact⟨ps,f,k+1,by go_num,by omega,rfl,by omega,by omega,hsp.o,Hno.o,hown.o,hb.o⟩
   case measure=>simp[intOf];omega
  ·obtain rfl:k=s.length:=aH
   have Hsp:=Aa (show Ag c s=ps++[s.drop f]by
    have h:=hno.o;rw[au aM]at h;rw[hsp.o,Ez c _ h])
   have Hz:=Aa hb.o.size;have k1:(0:Int)<=(f:Int):=aH;have k2:(f:Int)<=(s.length:Int):=aH;go_wp2_with (at_builtin;refine Me _ rfl _ _ 31 rfl w 9 aa 16 underlying31 Ef rfl wr _ rfl rfl _ _ _ rfl rfl hown.o bh aH Hz.o ?_;intro v' w' hown' hb';have Ho:=Aa (show w'.ownsRow w 9 1 v' (ps++[s.drop f]).length (Ah (ps++[s.drop f]))by rw[Pi,ai];exact hown');have Hb:=Aa (hb.o.trans hb');clear hown' hb')
   go_ret;refine⟨_,rfl,?_,Hb.o⟩;rw[Hsp.o];exact Ho.o
theorem Xv{b s:List UInt8}(h1:b≠[110])(h2:b≠[116])(h3:b≠[102]):Bx b s=false:=by
 unfold Bx;rw[if_neg h1,if_neg h2,if_neg h3]
theorem Qjd(s:List UInt8):Bx [116] s=(Ff s && !(s == [39,39])):=by
 show (decide (2<s.length) && decide (s.head?=some 39) && decide (s.getLast?=some 39) && Db (s.drop 1).dropLast)=((decide (2<=s.length) && decide (s.head?=some 39) && decide (s.getLast?=some 39) && Db (s.drop 1).dropLast) && !(s == [39,39]));rcases aG 2 s.length with h|h
 ·have e1:decide (2<s.length)=true:=aS;have e2:decide (2<=s.length)=true:=aN;have e3:(s == [39,39])=false:=by
   rw[beq_eq_false_iff_ne];rintro rfl;simp at h
  rw[e1,e2,e3];simp
 have e1:decide (2<s.length)=false:=aN;rw[e1];match s,h with
 |[],_=>rfl
 |[_],_=>rfl
 |[a,b],_=>
  by_cases ha:a=39
  ·by_cases hb:b=39
   ·subst ha;subst hb;rfl
   simp[hb]
  simp[ha]
theorem So(b s:List UInt8)(w:World)(hs:s.length<=4000000):
  Calls prog 189 #[b,s] w fun e w'=>e=.returned (.bool (Bx b s))/\Below w w w':=by
 by_cases h1:b=[110]
 ·subst h1;have Hp:=Aa (fun W=>Df s 999999 W hs aH);have hf:Bx [110] s=(match Ci s with|some n=>decide (0<n)|none=>false):=rfl;have hv:(Dn s 999999 && (s != [48]))=Bx [110] s:=by
   rw[hf];cases hd:Ci s with
   |none=>rw[M0 hd];rfl
   |some n=>
    obtain⟨h9,e⟩:=B0.1 hd;rw[Mq hd];have e1:decide (n<=999999)=true:=by simpa using h9
    rw[e1,Bool.true_and];by_cases h0:n=0
    ·subst h0;rw[e,Ee aH];decide
    have hne:s≠[48]:=by
     intro h;rw[e]at h;have:Aw n=Aw 0:=by rw[h,Ee (n:=0) aH];decide
     exact h0 (Qf7 this)
    have e2:(s != [48])=true:=by simpa using hne
    rw[e2];simp;omega
  have Hv:=Aa hv;clear hf hv;go_enter func189,ntmps189;go_wp2_with fail;refine(Hp.o _).mono ?_;rintro e w' ⟨n,hn,rfl,_,hb⟩;have Hb:=Aa hb;clear hb;rcases Bool.eq_false_or_eq_true (Dn s 999999)with ho|ho
  ·have Ho:=Aa ho;rw[ho];clear ho;go_wp2_with fail;exact j5
  have Ho:=Aa ho;rw[ho];clear ho;go_wp2_with fail;exact j5
 by_cases h2:b=[116]
 ·subst h2;have Hp:=Aa (fun W=>Vd s W hs);have Hv:=Aa (Qjd s);clear h1;go_enter func189,ntmps189;go_wp2_with fail;refine(Hp.o _).mono ?_;rintro e w' ⟨rfl,rfl⟩;rcases Bool.eq_false_or_eq_true (Ff s)with ho|ho
  ·have Ho:=Aa ho;rw[ho];clear ho;rcases Bool.eq_false_or_eq_true (s == [39,39])with hq|hq
   ·have Hq:=Aa hq;have hq2:(s != [39,39])=false:=by simp[bne,hq]
    go_wp2_with fail;exact j6
   have Hq:=Aa hq;have hq2:(s != [39,39])=true:=by simp[bne,hq]
   go_wp2_with fail;exact j6
  have Ho:=Aa ho;rw[ho];clear ho;go_wp2_with fail;go_ret;exact⟨D2 (Cn (by rw[Hv.o,Ho.o];rfl)),At _ _⟩
 by_cases h3:b=[102]
 ·subst h3;have Hv:=Aa (show Bx [102] s=(s == [121,101,115])by show decide (s=[121,101,115])=_;by_cases h:s=[121,101,115]<;>simp[h]);clear h1 h2;go_enter func189,ntmps189;go_wp2_with fail;go_ret;exact⟨D2 (Cn Hv.o.symm),At _ _⟩
 have Hv:=Aa (Xv (s:=s) h1 h2 h3);have q1:(b == [110])=false:=dS;have q2:(b == [116])=false:=dT;have q3:(b == [102])=false:=by simpa using h3
 clear h1 h2 h3;go_enter func189,ntmps189;go_wp2_with fail;go_ret;exact⟨D2 (Cn Hv.o.symm),At _ _⟩
def P6(st:Nat × Nat)(c:UInt8):Option (Nat × Nat):=
 if Bc c=true then some (st.1,st.2+1)else if c=64/\8<st.1+st.2 then none else some (st.2,0)
def mach:Nat × Nat->List UInt8->Option (Nat × Nat)
 |st,[]=>some st
 |st,c::r=>match P6 st c with
  |none=>none
  |some q=>mach q r
theorem E9:∀(a b:List UInt8) (st:Nat × Nat),mach st (a++b)=match mach st a with|none=>none|some q=>mach q b
 |[],b,st=>rfl
 |c::a,b,st=>by
  rw[av,mach,mach];cases h:P6 st c with
  |none=>rfl
  |some q=>exact E9 a b q
theorem Jd:∀(g:List UInt8) (st:Nat × Nat),g.all Bc=true->mach st g=some (st.1,st.2+g.length)
 |[],st,_=>rfl
 |c::g,st,h=>by
  simp only[List.all_cons,aw]at h;rw[mach,P6,if_pos h.1];simp only;rw[Jd g _ h.2];simp;omega
theorem Qbh{p:List UInt8}{x:UInt8}{g1 g2 q:List UInt8}(h1:g1.all Bc=true)(h2:g2.all Bc=true){st:Nat × Nat}(h:mach (0,0) (p++(g1++x::(g2++64::q)))=some st):g1.length+g2.length<=8:=by
 rw[E9]at h;cases hp:mach (0,0) p with
 |none=>rw[hp]at h;cases h
 |some s0=>
  rw[hp]at h;simp only at h;rw[E9,Jd g1 _ h1]at h;simp only[mach]at h;by_cases hx:Bc x=true
  ·rw[P6,if_pos hx]at h;simp only at h;rw[E9,Jd g2 _ h2]at h;simp only[mach]at h;rw[P6,if_neg aL]at h;split at h
   ·cases h
   rename_i h';split at h'
   ·cases h'
   rename_i hc;simp at hc;omega
  rw[P6,if_neg hx]at h;split at h
  ·cases h
  rename_i h';split at h'
  ·cases h'
  injection h' with h';subst h';rw[E9,Jd g2 _ h2]at h;simp only[mach]at h;rw[P6,if_neg aL]at h;split at h
  ·cases h
  rename_i h';split at h'
  ·cases h'
  rename_i hc;simp at hc;omega
theorem Qz{p g q:List UInt8}(h1:g.all Bc=true){st:Nat × Nat}(h:mach (0,0) (p++(g++64::q))=some st):g.length<=8:=by
 rw[E9]at h;cases hp:mach (0,0) p with
 |none=>rw[hp]at h;cases h
 |some s0=>
  rw[hp]at h;simp only at h;rw[E9,Jd g _ h1]at h;simp only[mach]at h;rw[P6,if_neg aL]at h;split at h
  ·cases h
  rename_i h';split at h'
  ·cases h'
  rename_i hc;simp at hc;omega
def Vo(s:List UInt8):Prop:=∀p g q,s=p++(g++64::q)->g.all Bc=true->g.length<=8
theorem Vo.of_mach{s:List UInt8}{st:Nat × Nat}(h:mach (0,0) s=some st):Vo s:=fun p g q e hg=>by subst e;exact Qz hg h
theorem Z8:∀{a b c d:List UInt8},a++b=c++d->(∃m,c=a++m/\b=m++d)\/(∃m,a=c++m/\d=m++b)
 |[],b,c,d,h=>.inl ⟨c,rfl,h⟩
 |x::a,b,[],d,h=>.inr ⟨x::a,rfl,h.symm⟩
 |x::a,b,y::c,d,h=>by
  rw[av,av]at h;injection h with h1 h2;subst h1;rcases Z8 h2 with⟨m,e1,e2⟩|⟨m,e1,e2⟩
  ·exact .inl ⟨m,by rw[e1];rfl,e2⟩
  exact .inr ⟨m,by rw[e1];rfl,e2⟩
theorem Qil{p:UInt8->Bool}{a b:List UInt8}(h:(a++b).all p=true):a.all p=true/\b.all p=true:=by
 rw[List.all_append,aw]at h;exact h
theorem Vo.turned{a b:List UInt8}{x:UInt8}{st:Nat × Nat}(h:mach (0,0) (a++x::b)=some st)(i:List UInt8)(hi:i=[]\/∃c,i=[c]/\Bc c=false/\c≠64):Vo (a++(i++b)):=by
 intro p g q e hg;rcases Z8 e with⟨m,e1,e2⟩|⟨m,e1,e2⟩
 ·
  rcases hi with rfl|⟨c,rfl,_,_⟩
  ·rw[List.nil_append]at e2;subst e2;exact Qz (p:=a++x::m) hg aS
  cases m with
  |nil=>
   rw[List.nil_append,List.singleton_append]at e2;cases g with
   |nil=>simp
   |cons y g=>
    rw[av]at e2;injection e2 with e3 e4;subst e3;simp only[List.all_cons,aw]at hg;rename_i hc _;rw[hg.1]at hc;cases hc
  |cons y m=>
   rw[List.singleton_append,av]at e2;injection e2 with e3 e4;subst e4;exact Qz (p:=a++x::m) hg aS
 ·
  subst e1;rcases Z8 e2 with⟨n,f1,f2⟩|⟨n,f1,f2⟩
  ·
   subst f1;cases n with
   |nil=>
    rw[List.nil_append]at f2;rcases hi with rfl|⟨c,rfl,_,hc⟩
    ·rw[List.nil_append]at f2;subst f2;have:=Qbh (p:=p) (x:=x) (g1:=g) (g2:=[]) (q:=q) hg rfl aS;simpa using this
    rw[List.singleton_append]at f2;injection f2 with f3 _;exact absurd f3.symm hc
   |cons y n=>
    rw[av]at f2;injection f2 with f3 f4;subst f3;exact Qz (p:=p) (g:=g) (q:=n++x::b) hg aS
  ·
   subst f1;obtain⟨hm,hn⟩:=Qil hg;rcases hi with rfl|⟨c,rfl,hc,hc2⟩
   ·rw[List.nil_append]at f2;subst f2;have:=Qbh (p:=p) (x:=x) (g1:=m) (g2:=n) (q:=q) hm hn aS;rw[ai];exact this
   cases n with
   |nil=>
    rw[List.nil_append,List.singleton_append]at f2;injection f2 with f3 _;exact absurd f3 hc2
   |cons y n=>
    rw[List.singleton_append,av]at f2;injection f2 with f3 _;subst f3;simp only[List.all_cons,aw]at hn;rw[hn.1]at hc;cases hc
theorem Qic(S:List Ty)(n:Nat)(t:Ty)(h:t.sort≠85):Bs S (n+1) t=true:=by
 simp only[Bs,E8,if_neg h]
theorem Qgb(xs:List (Ty × Value))(n:Nat)(t:Ty)(f:Fd)(fs:List Fd)(h:t.sort=85)(hf:t.fields=f::fs):
  Bs (Af xs) (n+1) t=(match H4 xs f.kind with|none=>true|some u=>Bs (Af xs) n u.1):=by
 simp only[Bs,E8,if_pos h,hf,H4];by_cases hk:f.kind.signs=[]/\f.kind.base=[64]
 ·rw[if_pos hk,if_pos hk,G1];cases Eb xs f.kind.name<;>rfl
 rw[if_neg hk,if_neg hk]
theorem Qcz{t:Ty}(h:Ek t)(hs:t.sort=85):∃f fs,t.fields=f::fs/\Cu f.kind:=by
 obtain⟨h1,h2,h3,h4,h5⟩:=h;cases hf:t.fields with
 |nil=>have:=h5 hf;rw[hs]at this;exact absurd this aL
 |cons f fs=>
  refine⟨f,fs,rfl,?_⟩;have:=h3.1 f dB;exact(this.2.2.2.2 dE).1
theorem Qhq{xs:List (Ty × Value)}{k:Kd}{x:Ty × Value}(h:H4 xs k=some x):x∈xs:=by
 unfold H4 at h;split at h
 ·exact(Co h).1
 cases h
theorem Qew(v fv:Value)(xs:List (Ty × Value))(t:Ty)(w:World)(h:Ge w v xs)(ht:Ek t)(hft:Dl w fv t.fields)(hok:∀x∈xs,Ek x.1):
  Calls prog 153 #[v,Pw t fv] w fun e w'=>e=.returned (.bool (Bs (Af xs) (xs.length+1) t))/\Below w w w':=by
 have H:=Aa h;have Hok:=Aa hok;obtain⟨A,c,rfl,hxl,_⟩:=h;obtain⟨A1,c1,rfl,hfl,hr1⟩:=hft;have Hr1:=Aa hr1;have Ht:=Aa ht;clear hok hr1 ht;unfold Pw;go_enter func153,ntmps153;go_wp2_with fail
 go_loopw [5] (fun i wr=>∃(n:Nat) (cur:Ty) (A2:Option Addr) (c2:Nat),i=.int .i64 n/\n<=xs.length+1/\Hid (Ek cur)/\Hid (Bj w A2 (cur.fields.length*4) (cur.fields.flatMap Ta)) /\
   Hid (Bs (Af xs) (xs.length+1) t=Bs (Af xs) (xs.length+1 - n) cur)/\Hid (Below w w wr)/\w.heap.size<wr.heap.size /\
   wr.cell? (w,0)=some (.int .u8 (cur.sort.toNat:Int))/\wr.cell? (w,1)=cur.name/\wr.cell? (w,2)=some (.slice A2 cur.fields.length c2) /\
   (∀j,wr.frozen? ⟨w.heap.size,j,none⟩=false)) (fun i _=>xs.length+1 - (intOf i).toNat)
 case atStart=>exact⟨0,t,A1,c1,rfl,ah _,Ht.o,Hr1.o,rfl,(At _ _).alloc (Ao _) _,by simp,by simp,by simp,by simp,by simp⟩
 case round=>
  obtain⟨n,cur,A2,c2,rfl,hn,hcu,hrow,heq,hb,hsz,u0,u1,u2,f1⟩:=hrel;by_cases hlt:n<=xs.length
  ·have k1:(n:Int)<=(xs.length:Int):=aH;obtain⟨m,hm⟩:∃m,xs.length+1 - n=m+1:=⟨xs.length - n,by omega⟩
   have hm2:xs.length+1 - (n+1)=m:=aH;rw[hm]at heq;have hcl:=cur.sort.toNat_lt;by_cases hs:cur.sort=85
   ·have t1:((cur.sort.toNat:Int) != 85)=false:=by have:=Bq hs;simpa using this
    have t2:((cur.sort.toNat:Int) == 85)=true:=Bq hs;obtain⟨f,fs,hfs,hkd⟩:=Qcz hcu.o hs;have Heq:=Aa (show Bs (Af xs) (xs.length+1) t=(match H4 xs f.kind with|none=>true|some u=>Bs (Af xs) m u.1)by rw[heq.o];exact Qgb xs m cur f fs hs hfs);have hlf:0<cur.fields.length:=cF;have hf0:cur.fields[0]=f:=by simp[hfs]
    obtain⟨b,off,rfl,hbl,g0,g1,g2,g3⟩:=Dl.at_ (hrow.o.below hb.o) hlf;rw[hf0]at g0 g1 g2 g3;simp only[Nat.zero_mul,Nat.add_zero]at g0 g1 g2 g3;have Hkd:=Aa hkd;have l1:(0:Int)<(cur.fields.length:Int):=aH;clear hs heq hkd hf0 hfs;go_wp2_with fail;refine(Ev (.slice A xs.length c) xs f.kind _ (H.o.below hb.o) Hkd.o).mono ?_;rintro e w4 ⟨rfl,hb4⟩;obtain⟨hc4,hfz4,hz4⟩:=By hb4;have Hb5:=Aa (hb.o.trans (hb4.mono (Nat.le_of_lt hsz)));rw[<-hc4 _ _ hsz]at u0 u1 u2;have f1':∀j,w4.frozen? ⟨w.heap.size,j,none⟩=false:=fun j=>(hfz4 _ j hsz).trans (f1 j);have hsz4:=hz4 _ hsz;have Hrow':=Aa (fun(x:Ty × Value) (hx:x∈xs)=>((show ∀x∈xs,Dl w x.2 x.1.fields from(by obtain⟨_,_,_,_,_,hf⟩:=H.o;exact hf)) x hx));have hn1:¬(w4.heap.size=w.heap.size):=aH;have hn2:¬(w.heap.size=w4.heap.size):=aH;clear hb4 hc4 hfz4 hz4 f1 hb;cases hr:H4 xs f.kind with
    |none=>
     rw[hr]at Heq;unfold Rv Nl;go_wp2_with fail;go_ret;exact⟨by rw[Heq.o];first|rfl|trivial,bU⟩
    |some x=>
     rw[hr]at Heq;obtain⟨u,uv⟩:=x;have Hm:=Aa (Qhq hr);obtain⟨A5,c5,e5,_,hr5⟩:=Hrow'.out _ Hm.o;simp only[]at e5 hr5;subst e5;have Hr5:=Aa hr5;clear hr hr5;unfold Rv Pw;go_wp2_with fail;go_roundw
     case rel=>
      refine⟨n+1,u,A5,c5,by go_num,by omega,Hok.o _ Hm.o,Hr5.o,by rw[hm2];exact Heq.o,bU,by simp;omega,by simp[go_sem,u0,u1,u2,f1',hn1,hn2,hsz4],by simp[go_sem,u0,u1,u2,f1',hn1,hn2,hsz4],by simp[go_sem,u0,u1,u2,f1',hn1,hn2,hsz4],by intro j;simp[go_sem,f1',hn1,hn2,hsz4]⟩
     case measure=>simp[intOf];omega
   have t1:((cur.sort.toNat:Int) != 85)=true:=by have:=Aq hs;simpa using this
   have t2:((cur.sort.toNat:Int) == 85)=false:=Aq hs;have Hend:=Aa (show Bs (Af xs) (xs.length+1) t=true by rw[heq.o];exact Qic _ m cur hs);clear hs heq;go_wp2_with fail;exact j8
  ·have k1:¬(n:Int)<=(xs.length:Int):=aH;have Hend:=Aa (show Bs (Af xs) (xs.length+1) t=false by rw[heq.o,show xs.length+1 - n=0 by omega];rfl);clear heq;go_wp2_with fail;exact j8
theorem Qe(S:List Ty)(hT:∀t∈S,Ek t):∀(n:Nat) (k:Kd),(C5 S n k).length<=6*n
 |0,_=>by simp[C5]
 |n+1,k=>by
  unfold C5;split
  ·simp;omega
  split
  ·simp;omega
  split
  ·simp;omega
  split
  ·simp;omega
  split
  ·simp;omega
  cases hf:Bw S k.name with
  |none=>simp
  |some t=>
   simp only;split
   ·simp;omega
   cases hfs:t.fields with
   |nil=>simp
   |cons f fs=>
    have h1:=((hT t (Bv hf).1).2.2.1.1 f cF).2.1;have h2:=Cv 2 f.tag ci;have ih:=Qe S hT n f.kind;simp only;split
    ·simp;omega
    simp;omega
def V0(b:List UInt8):List UInt8:=if b=[110]then[48]else if b=[116]then[39,39]else[110,111]
theorem Zc(b:List UInt8)(w:World)(hb:b=[110]\/b=[116]\/b=[102]):
  Calls prog 190 #[b] w fun e w'=>e=.returned (.string ⟨(V0 b).toArray⟩)/\w=w':=by
 rcases hb with rfl|rfl|rfl
 ·exact ii
 ·exact ii
 go_enter func190,ntmps190;go_wp2_with fail;exact iK
def Qd1(c:UInt8):List UInt8:=if c=91 then[91,93]else[45]
theorem Qy(v:Value)(c:UInt8)(t:List UInt8)(w:World)(hc:c=91\/c=63)(hl:t.length<=1000):
  Calls prog 157 #[v,.string ⟨(c::t).toArray⟩] w fun e w'=>e=.returned (.string ⟨(Qd1 c).toArray⟩)/\w=w':=by
 rcases hc with rfl|rfl
 ·go_enter func157,ntmps157;go_wp2_with fail;exact iK
 go_enter func157,ntmps157;go_wp2_with fail;exact iK
theorem Mr{k:Kd}(h:Cu k)(hs:k.signs=[])(hb:k.base≠[64]):Bn k=k.base/\(k.base=[110]\/k.base=[116]\/k.base=[102]):=by
 refine⟨by unfold Bn Cm;rw[hs,if_neg hb];rfl,?_⟩;rcases h.2.1 with h|h
 ·exact absurd h.1 hb
 exact h.1
theorem Nv(v:Value)(xs:List (Ty × Value))(k:Kd)(w:World)(hsc:Ge w v xs)(hk:Cu k)(hs:k.signs=[])(hb:k.base≠[64]):
  Calls prog 157 #[v,.string ⟨(Bn k).toArray⟩] w fun e w'=>e=.returned (.string ⟨(V0 k.base).toArray⟩)/\Below w w w':=by
 have Hr:=Aa (fun W h=>Ev v xs k W h hk);have hx:H4 xs k=none:=if_neg (fun h=>hb h.2);rw[hx]at Hr;obtain⟨e1,e2⟩:=Mr hk hs hb;rw[e1]at Hr ⊢;have Hsc:=Aa hsc;have Hp:=Aa (fun W=>Zc k.base W e2);have He2:=Aa e2;unfold Rv Nl at Hr;generalize k.base=b at *;clear hs hb e1 hsc hx;obtain⟨c,hc,t1,t2⟩:∃c,b=[c]/\((c.toNat:Int) == 91)=false/\((c.toNat:Int) == 63)=false:=by
  rcases e2 with rfl|rfl|rfl
  ·exact⟨110,rfl,by decide,by decide⟩
  ·exact⟨116,rfl,by decide,by decide⟩
  exact⟨102,rfl,by decide,by decide⟩
 clear e2;subst hc;go_enter func157,ntmps157;go_wp2_with fail;refine(Hr.o _ Hsc.o).mono ?_;rintro e w1 ⟨rfl,hb1⟩;go_wp2_with fail;refine(Hp.o _).mono ?_;rintro e w2 ⟨rfl,rfl⟩;go_wp2_with fail;go_ret;exact⟨rfl,hb1.alloc hb1.size _⟩
def G6(l:List UInt8)(w:World)(e:Ending)(w':World):Prop:=e=.returned l/\Below w w w'
theorem Zv(xv:Value)(xs:List (Ty × Value))(hok:∀x∈xs,Ek x.1)(n:Nat)(k:Kd)(w:World)(hsc:Ge w xv xs)(hk:Cu k)(hs:k.signs=[])(hb:k.base=[64])(t:Ty)(fv:Value)(hx:Eb xs k.name=some (t,fv))
  (hn:n<=9) (ih:t.sort=85->∀f fs,t.fields=f::fs->∀W,Ge W xv xs->Calls prog 157 #[xv,.string ⟨(Bn f.kind).toArray⟩] W (G6 (C5 (Af xs) n f.kind) W)):
  Calls prog 157 #[xv,.string ⟨(Bn k).toArray⟩] w (G6 (C5 (Af xs) (n+1) k) w):=by
 have Hr:=Aa (fun W h=>Ev xv xs k W h hk);have Hlen:=Aa (Qe (Af xs) (fun t ht=>by obtain⟨x,hx,rfl⟩:=ax.1 ht;exact hok x hx));have hrx:H4 xs k=some (t,fv):=(if_pos ⟨hs,hb⟩).trans hx
 have HF:=Aa (show C5 (Af xs) (n+1) k=if t.sort=82 then[123,125]else match t.fields with|[]=>[]|f::_=>if t.sort=69 then 35::Aw f.tag else 60::(Aw f.tag++61::(C5 (Af xs) n f.kind++[62]))from by
  rw[C5,if_neg dE,if_neg dE,if_neg bJ,if_neg bJ,if_neg bJ,G1,hx];rfl)
 have hto:=hok _ (Co hx).1;have hkb:Bn k=64::(k.name++[59]):=cZ;have hnl:k.name.length<=3:=by
  rcases hk.2.1 with h|h
  ·exact(Dp.1 h.2).2.1
  rw[hb]at h;exact absurd h.1 aL
 have hfd:Dl w fv t.fields:=by obtain⟨_,_,_,_,_,hf⟩:=hsc;exact hf _ (Co hx).1
 rw[hrx]at Hr;rw[hkb]at Hr ⊢;obtain⟨A,c,rfl,hfl,hrow⟩:=hfd;have Hsc:=Aa hsc;have Hrow:=Aa hrow;have Hto:=Aa hto;have Ih:=Aa ih;unfold Rv Pw at Hr;simp only[]at hto;clear hsc hk hs hb hx hkb hrow hto hrx ih hok;by_cases h82:t.sort=82
 ·have t82:((t.sort.toNat:Int) == 82)=true:=Bq (d:=82) h82;have HF2:=Aa (HF.o.trans (if_pos h82));clear h82 HF;go_enter func157,ntmps157;go_wp2_with fail;refine(Hr.o _ Hsc.o).mono ?_;rintro e w1 ⟨rfl,hb1⟩;go_wp2_with fail;go_ret;exact⟨by rw[HF2.o];rfl,hb1.alloc hb1.size _⟩
 have t82:((t.sort.toNat:Int) == 82)=false:=Aq (d:=82) h82;have HF2:=Aa (HF.o.trans (if_neg h82));have hne:t.fields≠[]:=fun h=>h82 (Hto.o.2.2.2.2 h);obtain⟨f,fs,hfs⟩:∃f fs,t.fields=f::fs:=by
  cases h:t.fields with
  |nil=>exact absurd h hne
  |cons f fs=>exact⟨f,fs,rfl⟩
 have hf0:0<t.fields.length:=cF;have hge:t.fields[0]=f:=by simp[hfs]
 have hft:=Hto.o.2.2.1.1 f cF;have htag:f.tag<=200:=hft.2.1;have hdl:=Cv 2 f.tag ci;have Hd:=Aa (fun W=>Fx f.tag f.tag W (Ao _) aH);have hi0:(0:Int)<(t.fields.length:Int):=aH;have HF3:=@Aa (C5 (Af xs) (n+1) k=if t.sort=69 then 35::Aw f.tag else 60::(Aw f.tag++61::(C5 (Af xs) n f.kind++[62]))) (by rw[HF2.o,hfs]);have Hfs:=Aa hfs;have Hge:=Aa hge;obtain⟨b,off,rfl,hbl,g0,g1,g2,g3⟩:=Dl.at_ Hrow.o hf0;rw[hge]at g0 g1 g2 g3;simp only[Nat.zero_mul,Nat.add_zero]at g0 g1 g2 g3;have H82:=Aa h82;clear HF2 HF h82 hne hfs hge hft g1 g3;by_cases h69:t.sort=69
 ·have t69:((t.sort.toNat:Int) == 69)=true:=Bq (d:=69) h69;have HF4:=Aa (HF3.o.trans (if_pos h69));clear h69 HF3;go_enter func157,ntmps157;go_wp2_with fail;refine(Hr.o _ Hsc.o).mono ?_;rintro e w1 ⟨rfl,hb1⟩;have g0':=(hb1.cell (p:=⟨b,off,none⟩) hbl).trans g0;have hbl1:b<w1.heap.size:=ad hbl hb1.size;have hbn:¬(b=w1.heap.size):=aH;have Hb1:=Aa hb1;clear hb1 g0 g2;go_wp2_with fail;refine(Hd.o _).mono ?_;rintro e w2 ⟨rfl,hb2⟩;go_wp2_with fail;go_ret;exact⟨by rw[HF4.o];simp,(Hb1.o.alloc Hb1.o.size _).trans (hb2.mono (by have:=Hb1.o.size;simp;omega))⟩
 have t69:((t.sort.toNat:Int) == 69)=false:=Aq (d:=69) h69;have HF4:=Aa (HF3.o.trans (if_neg h69));have h85:t.sort=85:=by
  rcases Hto.o.1 with h|h|h
  ·exact absurd h H82.o
  ·exact h
  exact absurd h h69
 have Ih2:=Aa (Ih.o h85 f fs Hfs.o);have hsl:=Hlen.o n f.kind;generalize C5 (Af xs) n f.kind=sl at *;generalize Bn f.kind=kd at *;clear h69 HF3 h85 Ih;go_enter func157,ntmps157;go_wp2_with fail;refine(Hr.o _ Hsc.o).mono ?_;rintro e w1 ⟨rfl,hb1⟩;have g0':=(hb1.cell (p:=⟨b,off,none⟩) hbl).trans g0;have g2':=(hb1.cell (p:=⟨b,off+2,none⟩) hbl).trans g2;have hbl1:b<w1.heap.size:=ad hbl hb1.size;have hbn:¬(b=w1.heap.size):=aH;have Hb1:=Aa hb1;clear hb1 g0 g2;go_wp2_with fail;obtain⟨W0,hW0⟩:∃W0,W0=w1.alloc (.cells #[.int .u8 (t.sort.toNat:Int),t.name,.slice (some ⟨b,off,none⟩) t.fields.length c] 90):=⟨_,rfl⟩
 rw[<-hW0];have y2:W0.cell? (w1,2)=some (.slice (some ⟨b,off,none⟩) t.fields.length c):=by rw[hW0];simp
 have y0:W0.cell? ⟨b,off,none⟩=(f.tag:Int):=by rw[hW0,World.cell?_alloc_old _ _ _ hbn];exact g0'
 have y3:W0.cell? ⟨b,off+2,none⟩=kd:=by rw[hW0,World.cell?_alloc_old _ _ _ hbn];exact g2'
 have hz0:W0.heap.size=w1.heap.size+1:=by rw[hW0];simp
 have hB5:w1.heap.size<W0.heap.size:=aH;have hb5:b<W0.heap.size:=aH;have Hb0:=@Aa (Below w w W0) (by rw[hW0];exact Hb1.o.alloc Hb1.o.size _);have Hsc0:=Aa (Hsc.o.below Hb0.o);generalize w1.heap.size=B5 at *;clear hW0 hz0 g0' g2';refine M4 [39,40,41,42,43,44,45,46,47,48,49,50,51,52,53,54,55,4]
  (fun i v W=>match i with|0=>v=(B5,2)|1=>v=.slice (some ⟨b,off,none⟩) t.fields.length c|2=>v=.pointer (some ⟨b,off,none⟩)|3=>v=.pointer (some ⟨b,off,none⟩)|4=>v=(f.tag:Int)|5=>v=.string ⟨(Aw f.tag).toArray⟩|6=>v=.string ⟨(60::Aw f.tag).toArray⟩|7=>v=.string ⟨(60::(Aw f.tag++[61])).toArray⟩|8=>v=xv|9=>v=(B5,2)|10=>v=.slice (some ⟨b,off,none⟩) t.fields.length c|11=>v=.pointer (some ⟨b,off,none⟩)|12=>v=.pointer (some ⟨b,off+2,none⟩)|13=>v=kd|14=>v=sl|15=>v=.string ⟨(60::(Aw f.tag++61::sl)).toArray⟩|16=>v=.string ⟨(60::(Aw f.tag++61::(sl++[62]))).toArray⟩|17=>v=.string ⟨(60::(Aw f.tag++61::(sl++[62]))).toArray⟩|_=>True)
  (fun L U W=>Below W0 W0 W) ((At _ _).drew) ?_ ?_
 ·repeat (first|exact An.nil|(refine An.cons ?_ ?_;rotate_left))
  all_goals
   rintro L U W hL hpre HR Hdep K hK;have hB:=HR.o;have c2:=(hB.cell (p:=⟨B5,2,none⟩) hB5).trans y2;have c0:=(hB.cell (p:=⟨b,off,none⟩) hb5).trans y0;have c3:=(hB.cell (p:=⟨b,off+2,none⟩) hb5).trans y3;first|(simp[Region.binds]at hpre;done)|simp[Region.binds]at hpre|clear hpre
  iterate 5
   ·exact fK
  ·exact hY
  ·exact fW
  ·exact fW
  iterate 6
   ·exact fK
  ·exact hC
  ·exact fW
  ·exact fW
  ·exact fK
 rintro L U W hL hφ hR;have e17:U 17=.string ⟨(60::(Aw f.tag++61::(sl++[62]))).toArray⟩:=hφ 17 aL;simp only[e17];clear hφ;have Hb9:=Aa (Hb0.o.trans (hR.mono Hb0.o.size));clear hR;go_wp2_with fail;go_ret;exact⟨by rw[HF4.o];rfl,Hb9.o⟩
theorem N5(S:List Ty)(n:Nat)(k:Kd)(c:UInt8)(t:List UInt8)(h:k.signs=c::t)(hc:c=91\/c=63):C5 S (n+1) k=Qd1 c:=by
 unfold C5 Qd1;rw[h];rcases hc with rfl|rfl
 ·rfl
 rfl
theorem Mh(S:List Ty)(n:Nat)(k:Kd)(h:k.signs=[])(hb:k.base=[110]\/k.base=[116]\/k.base=[102]):C5 S (n+1) k=V0 k.base:=by
 unfold C5 V0;rw[h];rcases hb with hb|hb|hb<;>rw[hb]<;>rfl
theorem Qc{k:Kd}(h:Cu k){c:UInt8}{t:List UInt8}(hs:k.signs=c::t):c=91\/c=63:=by
 have:=h.1;rw[hs,List.all_cons,aw]at this;have:=this.1;unfold Bc at this;simpa using this
theorem Qb4(xv:Value)(xs:List (Ty × Value))(hok:∀x∈xs,Ek x.1)(hS:Fy (Af xs)):∀(n:Nat),n<=9->∀(k:Kd) (w:World),Ge w xv xs->Cu k->B9 (Af xs) k->Sj (Af xs) n k ->
  Calls prog 157 #[xv,.string ⟨(Bn k).toArray⟩] w (G6 (C5 (Af xs) (n+1) k) w):=by
 intro n;induction n with
 |zero=>
  intro _ k w hsc hk hr he;cases hs:k.signs with
  |cons c t=>
   have hc:=Qc hk hs;have hkb:Bn k=c::(t++Cm k):=dl;have hl:=hk.2.2;rw[hkb]at hl ⊢;rw[N5 _ _ k c t hs hc];refine(Qy xv c (t++Cm k) w hc eT).mono ?_;rintro e w' ⟨rfl,rfl⟩;exact iT
  |nil=>
   by_cases hb:k.base=[64]
   ·obtain⟨t,_,h⟩:=he hs hb;exact absurd h (by simp[Bs])
   exact j9
 |succ n ih=>
  intro hn k w hsc hk hr he;cases hs:k.signs with
  |cons c t=>
   have hc:=Qc hk hs;have hkb:Bn k=c::(t++Cm k):=dl;have hl:=hk.2.2;rw[hkb]at hl ⊢;rw[N5 _ _ k c t hs hc];refine(Qy xv c (t++Cm k) w hc eT).mono ?_;rintro e w' ⟨rfl,rfl⟩;exact iT
  |nil=>
   by_cases hb:k.base=[64]
   ·have h1:=hr hb;rw[G1]at h1;cases hx:Eb xs k.name with
    |none=>rw[hx]at h1;cases h1
    |some x=>
     obtain⟨t,fv⟩:=x;have hft:Bw (Af xs) k.name=some t:=(Co hx).2.2;have hto:Ek t:=hok _ (Co hx).1;refine Zv xv xs hok (n+1) k w hsc hk hs hb t fv hx hn (fun h85 f fs hfs W hW=>?_);have hrf:B9 (Af xs) f.kind:=hS t (Bv hft).1 dy f cF;exact ja
   exact j9
theorem Rp{S:List Ty}(h:Nn S){k:Kd}(hr:B9 S k):Sj S 9 k:=by
 intro hs hb;have h1:=hr hb;cases hf:Bw S k.name with
 |none=>rw[hf]at h1;cases h1
 |some t=>exact⟨t,rfl,h.2.2 t (Bv hf).1⟩
theorem Qav(xv:Value)(xs:List (Ty × Value))(h:Nn (Af xs))(k:Kd)(w:World)(hsc:Ge w xv xs)(hk:Cu k)(hr:B9 (Af xs) k):
  Calls prog 157 #[xv,.string ⟨(Bn k).toArray⟩] w (G6 (Sd (Af xs) k) w):=
 Qb4 xv xs (fun x hx=>h.1.1 x.1 (ap hx)) h.2.1 9 (Ao _) k w hsc hk hr (Rp h hr)
theorem Ve(xv:Value)(xs:List (Ty × Value))(h:Nn (Af xs))(f:Fd)(w:World)(hsc:Ge w xv xs)(hk:Cu f.kind)(hr:B9 (Af xs) f.kind)(hl:f.given.length<=1000):
  Calls prog 123 #[xv,sfV f] w (G6 (Nq (Af xs) f) w):=by
 have HF:=@Aa (Nq (Af xs) f=if f.given=[]then Sd (Af xs) f.kind else f.given) rfl;have Hs:=Aa (fun W (h1:Ge W xv xs)=>Qav xv xs h f.kind W h1 hk hr);have Hsc:=Aa hsc;unfold sfV;generalize Bn f.kind=kd at *;clear h hk hr hsc;by_cases hg:f.given=[]
 ·have HF2:=Aa (HF.o.trans (if_pos hg));rw[hg];clear hg HF;go_enter func123,ntmps123;go_wp2_with fail;refine(Hs.o _ (Hsc.o.below ((At _ _).alloc (Ao _) _))).mono ?_;rintro e w1 ⟨rfl,hb1⟩;go_wp2_with fail;go_ret;exact⟨by rw[HF2.o];rfl,((At _ _).alloc (Ao _) _).trans (hb1.mono aM)⟩
 have HF2:=Aa (HF.o.trans (if_neg hg));have t1:f.given.isEmpty=false:=by simpa using hg
 have t2:(!f.given.isEmpty)=true:=by simp[t1]
 clear hg HF;go_enter func123,ntmps123;go_wp2_with fail;go_ret;exact⟨by rw[HF2.o];rfl,(At _ _).alloc (Ao _) _⟩
end
end Go.Proofs.YtpjijpcemejlnaaGreatDoor
