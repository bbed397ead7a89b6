/- Texts joined. Conditions: as each theorem names them. -/
import Derived.Deep.CutRange
import Derived.Deep.DeepCutAuto
import Derived.Test.YtmmhmlmfhpfgbaaGreatDoorB14
set_option maxRecDepth 100000
set_option maxHeartbeats 32000000
set_option linter.unusedVariables false
set_option linter.unusedSimpArgs false
namespace Go.Proofs.YtmmhmlmfhpfgbaaGreatDoor
open Go.RowKit Go.Proofs.Tryz
def FQ(S:List Ty)(K:Kd->List UInt8->Option (Vl × List UInt8))(fs:List Fd)(q:Option (List (Fd × Vl) × List UInt8))(last:Nat)(tt:List UInt8)(ps:List (Fd × Vl)):Prop:=
 ∃F,tt.length<=F/\q=(Dc S K fs (F+1) last tt).map (fun y=>(ps++y.1,y.2))
section
variable {S:List Ty} {K:Kd->List UInt8->Option (Vl × List UInt8)} {fs:List Fd} {q:Option (List (Fd × Vl) × List UInt8)} {last:Nat} {tt:List UInt8} {ps:List (Fd × Vl)}
theorem FQ.no(h:FQ S K fs q last tt ps)(hn:Ag tt=none):q=none:=by
 obtain⟨F,_,h⟩:=h
 unfold Dc at h
 rw[hn]at h
 exact h
theorem FQ.stop(h:FQ S K fs q last tt ps){r:List UInt8}(hn:Ag tt=some (0,r)):q=some (ps,r):=by
 obtain⟨F,_,h⟩:=h
 unfold Dc at h
 rw[hn]at h
 simpa using h
theorem FQ.step(h:FQ S K fs q last tt ps){g:Nat}{r:List UInt8}(hn:Ag tt=some (g,r))(h0:g≠0):
  (Ed r=none->q=none)/\(g<=last->q=none)/\∀p z,Ed r=some (p,z)->¬g<=last ->
   (Ap fs g=none->FQ S K fs q g z ps)/\∀f,Ap fs g=some f->(Cg (K f.kind) p=none->q=none)/\∀v,Cg (K f.kind) p=some v->FQ S K fs q g z (if Aw v=Kr S f then ps else ps++[(f,v)]):=by
 obtain⟨F,hF,h⟩:=h
 have hl:=(Cq hn).2
 unfold Dc at h
 rw[hn]at h
 simp only[if_neg h0]at h
 refine⟨fun hp=>by rw[hp]at h;exact h,fun hle=>?_,fun p z hp hle=>?_⟩
 ·cases hp:Ed r with
  |none=>rw[hp]at h;exact h
  |some y=>obtain⟨p,z⟩:=y;rw[hp]at h;simp only[if_pos hle]at h;exact h
 have hl2:=Ke hp
 rw[hp]at h
 simp only[if_neg hle]at h
 obtain⟨F',rfl⟩:∃F',F=F'+1:=⟨F - 1,by omega⟩
 refine⟨fun hf=>⟨F',by omega,by rw[hf]at h;exact h⟩,fun f hf=>⟨fun hw=>?_,fun v hw=>⟨F',by omega,?_⟩⟩⟩
 ·rw[hf]at h;simp only at h;rw[hw]at h;exact h
 rw[hf]at h
 simp only at h
 rw[hw]at h
 simp only at h
 rw[h]
 cases Dc S K fs (F'+1) g z with
 |none=>rfl
 |some y=>by_cases hp:Aw v=Kr S f<;>simp[hp]
end
structure FbS(w:World)(xv:Value)(tcs:List Value)(kb:List UInt8)(S:List Ty)(fs:List Fd)(wr:World)(tv kv:Value)(ps:List (Fd × Vl))(xs:List (Nat × SV)):Prop where
 bel:Below w.heap.size w wr
 st:Eg (w.heap.size+3) (w.heap.size+2) wr (.string ⟨kb.toArray⟩) (.string ⟨#[82]⟩) tv tv kv kv (ps.map fun p=>p.1.tag) xs
 box:wr.cell? ⟨w.heap.size,0,none⟩=some xv
 ty:wr.rangeAt (w.heap.size+1) 0 tcs
 eq:xs.map (·.2)=ps.map fun p=>Bt S p.1.kind p.2
 fld:∀p∈ps,Ap fs p.1.tag=some p.1
theorem FbS.after{w W W':World}{xv tv kv:Value}{tcs:List Value}{kb:List UInt8}{S:List Ty}{fs:List Fd}{ps:List (Fd × Vl)}{xs:List (Nat × SV)}(h:FbS w xv tcs kb S fs W tv kv ps xs)(hb:Below W.heap.size W W'):FbS w xv tcs kb S fs W' tv kv ps xs:=by
 have hlt:=h.st.lt
 exact⟨h.bel.trans (hb.mono h.bel.size),h.st.after hb,(hb.cell (p:=⟨w.heap.size,0,none⟩) (show w.heap.size<W.heap.size by omega)).trans h.box,Ar h.ty (by omega) hb,h.eq,h.fld⟩
section
attribute [local go_sem] Qra Qpu Qo3 Qmi ByteArray.mk_append_mk
theorem Ve(c:UInt8)(p:List UInt8):∀(l:List (List UInt8)),Ax c (l++[p])=if l.length=0 then p else Ax c l++c::p
 |[]=>rfl
 |[q]=>by simp[Ax]
 |q::r::l=>by
  have ih:=Ve c p (r::l);rw[aw,Dl c q aK,ih,Dl c q aK];simp
def Dz(l:List UInt8)(w:World)(e:Ending)(w':World):Prop:=e=.returned l/\Below w w w'
theorem En.open_{P:Nat->Prop}{w:World}{b:Nat}{kind text:List UInt8}{tags:List Nat}{kids:List SV}(h:En P w b (.mk kind text tags kids)):∃(A1 A2:Option Addr) (c1 c2:Nat) (xs:List (Nat × SV)),b<w.heap.size/\P b/\w.cell? (b,0)=kind/\w.cell? (b,1)=text /\
  w.cell? (b,2)=some (.slice A1 tags.length c1)/\w.cell? (b,3)=some (.slice A2 xs.length c2)/\Ca w A1 tags.length (Dm tags)/\Ca w A2 xs.length (Dr (xs.map (·.1)))/\tags.length<=1000/\xs.length<=1000/\kids=xs.map (·.2)/\∀x∈xs,En P w x.1 x.2:=by
 obtain⟨k,t,g,A1,A2,c1,c2,xs,hv,hb,hP,h0,h1,h2,h3,hr1,hr2,hl1,hl2,_,_,h⟩:=h;injection hv with e1 e2 e3 e4;subst e1 e2 e3 e4;exact⟨A1,A2,c1,c2,xs,hb,hP,h0,h1,h2,h3,hr1,hr2,hl1,hl2,rfl,h⟩
theorem Pl{xs:List (Nat × SV)}{i:Nat}(hi:i<xs.length):(Dr (xs.map (·.1)))[i]'(by simp[Dr];exact hi)=.pointer (some ⟨xs[i].1,0,none⟩):=by simp[Dr]
theorem Qae{l:List Nat}{i:Nat}(hi:i<l.length):(Dm l)[i]'(by simp[Dm];exact hi)=.int .i64 (l[i]:Int):=by simp[Dm]
theorem Rs(P:Nat->Prop)(b:Nat)(c:UInt8)(tx:List UInt8)(w:World)(hc:c=110\/c=116\/c=102)(h:En P w b (.mk [c] tx [] [])):Calls prog 48 #[b] w (Dz tx w):=by
 obtain⟨_,_,_,_,_,hb,_,h0,h1,_⟩:=h.open_;have HR:=Aa h1;rcases hc with rfl|rfl|rfl<;>
 ·go_enter func48,ntmps48;go_wp2_with fail;go_ret;exact iJ
theorem Qkn(P:Nat->Prop)(b:Nat)(kr:List UInt8)(kids:List SV)(ks:List Vl)(w:World)(h:En P w b (.mk (91::kr) [] [] kids))(hkr:kr.length<=100)(hl:(Aw (.mk 91 [] 0 ks)).length<=100000000)(hkl:kids.length=ks.length)
  (ih:∀(i:Nat) (hi:i<kids.length) (hi2:i<ks.length) b W,En P W b kids[i]->(Aw ks[i]).length<=100000000->Calls prog 48 #[.pointer (some ⟨b,0,none⟩)] W (Dz (Aw ks[i]) W)):
  Calls prog 48 #[.pointer (some ⟨b,0,none⟩)] w (Dz (Aw (.mk 91 [] 0 ks)) w):=by
 obtain⟨A1,A2,c1,c2,xs,hb,_,h0,_,_,h3,_,hr2,_,hxl,rfl,hk⟩:=h.open_;have HF:=Aa (G6 ks);have hjl:(Ax 44 (ks.map Aw)).length<=100000000:=by rw[G6]at hl;simp at hl;omega
 rw[Bs]at hjl
 have Hjt:=Aa (fun i (hi:i<ks.length)=>(show Du ((ks.take (i+1)).map Aw)<=Du (ks.map Aw)/\(Aw ks[i]).length+1+Du ((ks.take i).map Aw)=Du ((ks.take (i+1)).map Aw)from by
  refine⟨?_,?_⟩
  ·conv=>rhs;rw[<-List.take_append_drop (i+1) ks,aA]
   exact jb
  rw[Cv ks i hi,aA];simp[Du];omega))
 have hkl2:xs.length=ks.length:=eE;have Ih:=Aa ih;have Hr:=Aa hr2;have Hk:=Aa hk;have Hkl:=Aa hkl2;have Hlen:=Aa hjl;have hle:ks.length<=xs.length:=aI;clear hkl hkl2 ih hr2 hk h hl hjl;go_enter func48,ntmps48;go_wp2_with fail;go_loopw [4,3] (fun i s wr=>∃m:Nat,i=.int .i64 m/\m<=xs.length/\s=.string ⟨(91::Ax 44 ((ks.take m).map Aw):List UInt8).toArray⟩/\Hid (Below w w wr)) (fun i _ _=>xs.length - (intOf i).toNat)
 case atStart=>exact⟨0,rfl,ag _,rfl,Aq _ _⟩
 case round=>
  obtain⟨m,rfl,hm,rfl,Hbr⟩:=hrel;have m1:(0:Int)<=(m:Int):=aI;have g3:=(Hbr.o.cell (p:=⟨b,3,none⟩) hb).trans h3;have hbw:b<wr.heap.size:=de;have HJ:=Aa (Bs 44 ((ks.take m).map Aw));by_cases hlt:m<xs.length
  ·have m2:(m:Int)<(xs.length:Int):=aI;have hltk:m<ks.length:=cD;obtain⟨b8,o8,rfl,hb8,hc8⟩:=(Hr.o.below Hbr.o).at_ hlt;rw[Pl hlt]at hc8;have HX:=Aa (fun W (hW:Below w w W)=>Ih.o m eF hltk xs[m].1 W cU (by obtain⟨q1,q2⟩:=Hjt.o m hltk;have:=Hlen.o;omega));obtain⟨q1,q2⟩:=Hjt.o m hltk;have hjm:(Ax 44 ((ks.take m).map Aw)).length<=100000000:=by rw[HJ.o];have:=Hlen.o;omega
   have hpm:(Aw ks[m]).length<=100000000:=by have:=Hlen.o;omega
   have HP:=Aa (show Ax 44 ((ks.take (m+1)).map Aw)=if m=0 then Aw ks[m]else Ax 44 ((ks.take m).map Aw)++44::Aw ks[m]from by
    rw[Cv ks m hltk,aA,List.map_singleton,Ve];have:((ks.take m).map Aw).length=m:=aO;rw[this])
   have HP0:=@Aa (m=0->Ax 44 ((ks.take m).map Aw)=[]) (by rintro rfl;rfl);clear q1 q2;generalize Aw ks[m]=pm at *;generalize Ax 44 ((ks.take m).map Aw)=jm at *;generalize xs[m].1=bm at *;by_cases h0m:m=0
   ·have t0:¬(0<m):=aI;have t1:¬((0:Int)<(m:Int)):=aI;have HP1:=Aa (HP.o.trans (if_pos h0m));have HP2:=Aa (HP0.o h0m);clear h0m HP HP0 HJ;go_wp2_with fail;refine(HX.o _ Hbr.o).mono ?_;rintro e w3 ⟨rfl,hb3⟩;have Hb3:=Aa (Hbr.o.trans (hb3.mono Hbr.o.size));clear hb3;go_wp2_with fail;go_roundw
    case rel=>exact⟨m+1,by go_num,by omega,by rw[HP1.o,HP2.o];rfl,Hb3.o⟩
    case measure=>simp[intOf];omega
   have t0:0<m:=aI;have t1:(0:Int)<(m:Int):=aI;have HP1:=Aa (HP.o.trans (if_neg h0m));clear h0m HP HP0 HJ;go_wp2_with fail;refine(HX.o _ Hbr.o).mono ?_;rintro e w3 ⟨rfl,hb3⟩;have Hb3:=Aa (Hbr.o.trans (hb3.mono Hbr.o.size));clear hb3;go_wp2_with fail;go_roundw
   case rel=>exact⟨m+1,by go_num,by omega,by rw[HP1.o]<;>simp,Hb3.o⟩
   case measure=>simp[intOf];omega
  ·have em:m=ks.length:=cD;have HE:=Aa (show Ax 44 ((ks.take m).map Aw)=Ax 44 (ks.map Aw)by rw[em,List.take_length]);have hjm:(Ax 44 ((ks.take m).map Aw)).length<=100000000:=by rw[HE.o,Bs];exact Hlen.o
   clear em HJ;generalize Ax 44 ((ks.take m).map Aw)=jm at *;go_wp2_with fail;go_ret;exact⟨by rw[HF.o,<-HE.o];rfl,Hbr.o⟩
theorem Qdq(P:Nat->Prop)(b:Nat)(kr:List UInt8)(kids:List SV)(o:Option Vl)(w:World)(h:En P w b (.mk (63::kr) [] [] kids))(hkr:kr.length<=100)(hl:(Aw (.mk 63 [] 0 o.toList)).length<=100000000)(hkl:kids.length=o.toList.length)
  (ih:∀x,o=some x->∀b W y,y∈kids->En P W b y->Calls prog 48 #[.pointer (some ⟨b,0,none⟩)] W (Dz (Aw x) W)):
  Calls prog 48 #[.pointer (some ⟨b,0,none⟩)] w (Dz (Aw (.mk 63 [] 0 o.toList)) w):=by
 obtain⟨A1,A2,c1,c2,xs,hb,_,h0,_,_,h3,_,hr2,_,hxl,rfl,hk⟩:=h.open_;cases o with
 |none=>
  have hx0:xs=[]:=eE;subst hx0;clear hk hr2 ih h;go_enter func48,ntmps48;go_wp2_with fail;go_ret;exact iJ
 |some x=>
  obtain⟨⟨bx,y⟩,rfl⟩:∃a,xs=[a]:=by
   cases xs with
   |nil=>simp at hkl
   |cons a l=>cases l with
    |nil=>exact⟨a,rfl⟩
    |cons b l=>simp at hkl
  have HF:=Aa (show Aw (.mk 63 [] 0 [x])=43::Aw x by simp[Aw,Di,Gl,Ax]);have hpl:(Aw x).length<=100000000:=by have:=HF.o;simp only[Option.toList]at hl;rw[this]at hl;simp at hl;omega
  obtain⟨b8,o8,rfl,hb8,hc8⟩:=hr2.at_ (show 0<1 by decide);simp[Dr]at hc8;have HX:=Aa (ih x rfl bx w y aK (hk (bx,y) aK));simp only[List.length_singleton]at h3;clear hk hr2 ih h hkl;generalize Aw x=px at *;go_enter func48,ntmps48;go_wp2_with fail;refine HX.o.mono ?_;rintro e w3 ⟨rfl,hb3⟩;have Hb3:=Aa hb3;clear hb3;go_wp2_with fail;go_ret;exact⟨by show _=Ending.returned (.string ⟨(Aw (.mk 63 [] 0 [x])).toArray⟩);rw[HF.o];rfl,Hb3.o⟩
theorem Qly(P:Nat->Prop)(b:Nat)(kr:List UInt8)(g:Nat)(w:World)(h:En P w b (.mk (64::kr) [69] [g] []))(hkr:kr.length<=100)(hg:g<=200):Calls prog 48 #[b] w (Dz (35::Az g) w):=by
 obtain⟨A1,A2,c1,c2,xs,hb,_,h0,ht,h2,_,hr1,_⟩:=h.open_;obtain⟨b6,o6,rfl,hb6,hc6⟩:=hr1.at_ (show 0<1 by decide);simp[Dm]at hc6 h2;have Hd:=Aa (fun W=>Gg g g W (Al _) aI);have hdl:=C9 2 g ch
 have HN:=Aa (show Calls prog 106 #[b] w (Dz (35::Az g) w)from by
  clear h h0 hr1;go_enter func106,ntmps106;go_wp2_with fail;refine(Hd.o _).mono ?_;rintro e w3 ⟨rfl,hb3⟩;have Hb3:=Aa hb3;clear hb3;go_wp2_with fail;go_ret;exact⟨rfl,Hb3.o⟩)
 clear h ht h2 hr1 Hd hc6;go_enter func48,ntmps48;go_wp2_with fail;refine HN.o.mono ?_;rintro e w3 ⟨rfl,hb3⟩;have Hb3:=Aa hb3;clear hb3;go_wp2_with fail;exact jc
theorem Qky(P:Nat->Prop)(b:Nat)(kr:List UInt8)(g:Nat)(y:SV)(px:List UInt8)(w:World)(h:En P w b (.mk (64::kr) [85] [g] [y]))(hkr:kr.length<=100)(hg:g<=200)(hpl:px.length<=100000000)
  (ih:∀b W,En P W b y->Calls prog 48 #[.pointer (some ⟨b,0,none⟩)] W (Dz px W)):
  Calls prog 48 #[.pointer (some ⟨b,0,none⟩)] w (Dz (60::(Az g++61::(px++[62]))) w):=by
 obtain⟨A1,A2,c1,c2,xs,hb,_,h0,ht,h2,h3,hr1,hr2,_,_,hkk,hk⟩:=h.open_;obtain⟨⟨bx,y'⟩,rfl⟩:∃a,xs=[a]:=by
  cases xs with
  |nil=>simp at hkk
  |cons a l=>cases l with
   |nil=>exact⟨a,rfl⟩
   |cons b l=>simp at hkk
 obtain rfl:y=y':=by simpa using hkk
 obtain⟨b6,o6,rfl,hb6,hc6⟩:=hr1.at_ (show 0<1 by decide);obtain⟨b8,o8,rfl,hb8,hc8⟩:=hr2.at_ (show 0<1 by decide);simp[Dm]at hc6 h2;simp[Dr]at hc8 h3;have Hd:=Aa (fun W=>Gg g g W (Al _) aI);have hdl:=C9 2 g ch;have HX:=Aa (fun W (hW:Below w w W)=>ih bx W ((hk (bx,y) aK).after hW));have C6:=Aa hc6;have C8:=Aa hc8;have C2:=Aa h2;have C3:=Aa h3
 have HN:=Aa (show Calls prog 106 #[.pointer (some ⟨b,0,none⟩)] w (Dz (60::(Az g++61::(px++[62]))) w)from by
  clear h h0 hr1 hr2 hk hkk ih;go_enter func106,ntmps106;go_wp2_with fail;clear h2 h3 hc6 hc8;refine Xa [11,12,13,14,15,16,17,18,19,20,21,22,23,24,25,26,27,28,2]
   (fun ix v W=>match ix with|0=>v=.pointer (some ⟨b,0,none⟩)|1=>v=.pointer (some ⟨b,0,none⟩)|2=>v=.pointer (some ⟨b,2,none⟩)|3=>v=.slice (some ⟨b6,o6,none⟩) 1 c1|4=>v=.pointer (some ⟨b6,o6,none⟩)|5=>v=(g:Int)|6=>v=(Az g:List UInt8)|7=>v=(60::Az g:List UInt8)|8=>v=.string ⟨(60::(Az g++[61]):List UInt8).toArray⟩|9=>v=.pointer (some ⟨b,0,none⟩)|10=>v=.pointer (some ⟨b,0,none⟩)|11=>v=.pointer (some ⟨b,3,none⟩)|12=>v=.slice (some ⟨b8,o8,none⟩) 1 c2|13=>v=.pointer (some ⟨b8,o8,none⟩)|14=>v=bx|15=>v=(px:List UInt8)|16=>v=.string ⟨(60::(Az g++61::px):List UInt8).toArray⟩|17=>v=.string ⟨(60::(Az g++61::(px++[62])):List UInt8).toArray⟩|18=>v=.string ⟨(60::(Az g++61::(px++[62])):List UInt8).toArray⟩|_=>True)
   (fun L U W=>Below w w W) ((Aq _ _).drew) ?_ ?_
  ·repeat (first|exact Bb.nil|(refine Bb.cons ?_ ?_;rotate_left))
   all_goals
    rintro L U W hL hpre HR Hdep K hK;have hB:=HR.o;have d2:=(hB.cell (p:=⟨b,2,none⟩) hb).trans C2.o;have d3:=(hB.cell (p:=⟨b,3,none⟩) hb).trans C3.o;have d6:=(hB.cell (p:=⟨b6,o6,none⟩) hb6).trans C6.o;have d8:=(hB.cell (p:=⟨b8,o8,none⟩) hb8).trans C8.o;first|(simp[Region.binds]at hpre;done)|simp[Region.binds]at hpre|clear hpre
   iterate 6
    ·exact fP
   ·exact gx
   ·exact fV
   ·exact fV
   iterate 6
    ·exact fP
   ·go_simp;refine(HX.o W hB).mono ?_;rintro e w3 ⟨rfl,hb3⟩;exact hK _ _ _ rfl Ae (hB.trans (hb3.mono hB.size)) aJ
   ·exact fV
   ·exact fV
   ·exact fP
  rintro L U W hL hφ hR;have e18:U 18=.string ⟨(60::(Az g++61::(px++[62])):List UInt8).toArray⟩:=hφ 18 aL;simp only[e18];clear hφ;have Hb9:=Aa hR;clear hL hR;go_wp2_with fail;go_ret;exact⟨rfl,Hb9.o⟩)
 clear h ht h2 h3 hr1 hr2 Hd hc6 hc8 hk hkk ih HX C6 C8 C2 C3;go_enter func48,ntmps48;go_wp2_with fail;refine HN.o.mono ?_;rintro e w3 ⟨rfl,hb3⟩;have Hb3:=Aa hb3;clear hb3;go_wp2_with fail;exact jc
theorem Qlr(P:Nat->Prop)(b:Nat)(kr:List UInt8)(kids:List SV)(ps:List (Fd × Vl))(w:World)(h:En P w b (.mk (64::kr) [82] (ps.map fun p=>p.1.tag) kids))(hkr:kr.length<=100)(hl:(Aw (.mk 82 [] 0 (ps.map Ea))).length<=100000000)(hkl:kids.length=ps.length)
  (htg:∀p∈ps,p.1.tag<=200) (ih:∀(i:Nat) (hi:i<kids.length) (hi2:i<ps.length) b W,En P W b kids[i]->(Aw ps[i].2).length<=100000000->Calls prog 48 #[.pointer (some ⟨b,0,none⟩)] W (Dz (Aw ps[i].2) W)):
  Calls prog 48 #[.pointer (some ⟨b,0,none⟩)] w (Dz (Aw (.mk 82 [] 0 (ps.map Ea))) w):=by
 obtain⟨A1,A2,c1,c2,xs,hb,_,h0,ht,h2,h3,hr1,hr2,_,hxl,rfl,hk⟩:=h.open_;have HF:=Aa (Nb ps);have hjl:(Ax 44 (ps.map fun p=>Aw (Ea p))).length<=100000000:=by rw[Nb]at hl;simp at hl;omega
 rw[Bs]at hjl
 have Hjt:=Aa (fun i (hi:i<ps.length)=>(show Du ((ps.take (i+1)).map fun p=>Aw (Ea p))<=Du (ps.map fun p=>Aw (Ea p))/\(Aw (Ea ps[i])).length+1+Du ((ps.take i).map fun p=>Aw (Ea p))=Du ((ps.take (i+1)).map fun p=>Aw (Ea p))from by
  refine⟨?_,?_⟩
  ·conv=>rhs;rw[<-List.take_append_drop (i+1) ps,aA]
   exact jb
  rw[Cv ps i hi,aA];simp[Du];omega))
 have hkl2:xs.length=ps.length:=eE;have Ih:=Aa ih;have Hr1:=Aa hr1;have Hr:=Aa hr2;have Hk:=Aa hk;have Hkl:=Aa hkl2;have Hlen:=Aa hjl;have Htg:=Aa htg;have C2:=Aa (show w.cell? ⟨b,2,none⟩=some (.slice A1 ps.length c1)by simpa using h2);have hle:ps.length<=xs.length:=aI
 have HN:=Aa (show Calls prog 106 #[.pointer (some ⟨b,0,none⟩)] w (Dz (Aw (.mk 82 [] 0 (ps.map Ea))) w)from by
  clear hkl hkl2 ih hr1 hr2 hk h hl hjl h0 h2 htg;go_enter func106,ntmps106;go_wp2_with fail;go_loopw [4,3] (fun i s wr=>∃m:Nat,i=.int .i64 m/\m<=xs.length/\s=.string ⟨(123::Ax 44 ((ps.take m).map fun p=>Aw (Ea p)):List UInt8).toArray⟩/\Hid (Below w w wr)) (fun i _ _=>xs.length - (intOf i).toNat)
  case atStart=>exact⟨0,rfl,ag _,rfl,Aq _ _⟩
  case round=>
   obtain⟨m,rfl,hm,rfl,Hbr⟩:=hrel;have m1:(0:Int)<=(m:Int):=aI;have g3:=(Hbr.o.cell (p:=⟨b,3,none⟩) hb).trans h3;have hbw:b<wr.heap.size:=de;have HJ:=Aa (Bs 44 ((ps.take m).map fun p=>Aw (Ea p)));by_cases hlt:m<xs.length
   ·have m2:(m:Int)<(xs.length:Int):=aI;have hltk:m<ps.length:=cD;have m2':(m:Int)<(ps.length:Int):=aI;obtain⟨b8,o8,rfl,hb8,hc8⟩:=(Hr.o.below Hbr.o).at_ hlt;rw[Pl hlt]at hc8;obtain⟨b6,o6,e6,hb6,hc6⟩:=(Hr1.o.below Hbr.o).at_ (show m<(ps.map fun p=>p.1.tag).length by simpa using hltk);rw[Qae (by simpa using hltk),List.getElem_map]at hc6;subst e6;obtain⟨q1,q2⟩:=Hjt.o m hltk;have hfl:=Jo ps[m];have hjm:(Ax 44 ((ps.take m).map fun p=>Aw (Ea p))).length<=100000000:=by rw[HJ.o];have:=Hlen.o;omega
    have hpm:(Aw ps[m].2).length<=100000000:=by have:=Hlen.o;omega
    have HX:=Aa (fun W (hW:Below w w W)=>Ih.o m eF hltk xs[m].1 W cU hpm);have hgt:=Htg.o _ (ae hltk);have Hd:=Aa (fun W=>Gg ps[m].1.tag ps[m].1.tag W (Al _) aI);have hdl:=C9 2 ps[m].1.tag ch
    have HP:=Aa (show Ax 44 ((ps.take (m+1)).map fun p=>Aw (Ea p))=(if m=0 then[]else Ax 44 ((ps.take m).map fun p=>Aw (Ea p))++[44])++(Az ps[m].1.tag++61::Aw ps[m].2)from by
     rw[Cv ps m hltk,aA,List.map_singleton,Ve];have:((ps.take m).map fun p=>Aw (Ea p)).length=m:=aO;rw[this,show Aw (Ea ps[m])=Az ps[m].1.tag++61::Aw ps[m].2 by simp[Ea,Aw,Di,Gl,Ax]];by_cases h0:m=0
     ·rw[if_pos h0,if_pos h0];rfl
     rw[if_neg h0,if_neg h0];simp)
    have HP0:=@Aa (m=0->Ax 44 ((ps.take m).map fun p=>Aw (Ea p))=[]) (by rintro rfl;rfl);clear q1 q2 hfl;generalize Aw ps[m].2=pm at *;generalize Ax 44 ((ps.take m).map fun p=>Aw (Ea p))=jm at *;generalize xs[m].1=bm at *;generalize ps[m].1.tag=gm at *;obtain⟨acc,hacc⟩:∃acc:List UInt8,acc=if m=0 then 123::jm else 123::(jm++[44]):=⟨_,rfl⟩
    have hal:acc.length<=100000002:=by rw[hacc];split<;>simp<;>omega
    have HPn:=Aa (show (123::Ax 44 ((ps.take (m+1)).map fun p=>Aw (Ea p)):List UInt8)=acc++(Az gm++61::pm)from by
     rw[HP.o,hacc];by_cases h0:m=0
     ·rw[if_pos h0,if_pos h0,HP0.o h0];rfl
     rw[if_neg h0,if_neg h0];simp)
    have C8:=Aa hc8;have C6:=Aa hc6;have hzr:=Hbr.o.size;by_cases h0m:m=0
    ·have t0:¬(0<m):=aI;have t1:¬((0:Int)<(m:Int)):=aI;have hA:=hacc.trans (if_pos h0m);have HA:=Aa hA;clear h0m HP HP0 HJ hacc hA hc8 hc6;go_wp2_with fail;rw[<-HA.o];refine rgE [52,53,54,55,56,57,58,59,60,61,62,63,64,65,66,67,68,69,70,71,3]
      (fun ix v W=>match ix with|0=>v=(acc:List UInt8)|1=>v=.pointer (some ⟨b,0,none⟩)|2=>v=.pointer (some ⟨b,0,none⟩)|3=>v=.pointer (some ⟨b,2,none⟩)|4=>v=.slice (some ⟨b6,o6,none⟩) ps.length c1|5=>v=(m:Int)|6=>v=.pointer (some ⟨b6,o6+m,none⟩)|7=>v=(gm:Int)|8=>v=(Az gm:List UInt8)|9=>v=(acc++Az gm:List UInt8)|10=>v=.string ⟨(acc++(Az gm++[61]):List UInt8).toArray⟩|11=>v=.pointer (some ⟨b,0,none⟩)|12=>v=.pointer (some ⟨b,0,none⟩)|13=>v=.pointer (some ⟨b,3,none⟩)|14=>v=.slice (some ⟨b8,o8,none⟩) xs.length c2|15=>v=(m:Int)|16=>v=.pointer (some ⟨b8,o8+m,none⟩)|17=>v=bm|18=>v=(pm:List UInt8)|19=>v=.string ⟨(acc++(Az gm++61::pm):List UInt8).toArray⟩|20=>v=.string ⟨(acc++(Az gm++61::pm):List UInt8).toArray⟩|_=>True)
      (fun L U W=>Below wr wr W) ((Aq _ _).drew) ?_ ?_
     ·exact fR
     rintro L U W hL hφ hR;have e20:U 20=.string ⟨(acc++(Az gm++61::pm):List UInt8).toArray⟩:=hφ 20 aL;simp only[e20];clear hφ;have Hb9:=Aa (Hbr.o.trans (hR.mono hzr));clear hL hR;go_wp2_with fail;go_roundw
     case rel=>exact⟨m+1,by go_num,by omega,by rw[HPn.o],Hb9.o⟩
     case measure=>simp[intOf];omega
    have t0:0<m:=aI;have t1:(0:Int)<(m:Int):=aI;have hA:=hacc.trans (if_neg h0m);have HA:=Aa hA;clear h0m HP HP0 HJ hacc hA hc8 hc6;go_wp2_with fail;have HA2:=@Aa ((123::(jm++[44]):List UInt8)=acc) HA.o.symm;first|rw[HA2.o]|(simp only[aw];rw[HA2.o])
    refine rgE [52,53,54,55,56,57,58,59,60,61,62,63,64,65,66,67,68,69,70,71,3]
     (fun ix v W=>match ix with|0=>v=(acc:List UInt8)|1=>v=.pointer (some ⟨b,0,none⟩)|2=>v=.pointer (some ⟨b,0,none⟩)|3=>v=.pointer (some ⟨b,2,none⟩)|4=>v=.slice (some ⟨b6,o6,none⟩) ps.length c1|5=>v=(m:Int)|6=>v=.pointer (some ⟨b6,o6+m,none⟩)|7=>v=(gm:Int)|8=>v=(Az gm:List UInt8)|9=>v=(acc++Az gm:List UInt8)|10=>v=.string ⟨(acc++(Az gm++[61]):List UInt8).toArray⟩|11=>v=.pointer (some ⟨b,0,none⟩)|12=>v=.pointer (some ⟨b,0,none⟩)|13=>v=.pointer (some ⟨b,3,none⟩)|14=>v=.slice (some ⟨b8,o8,none⟩) xs.length c2|15=>v=(m:Int)|16=>v=.pointer (some ⟨b8,o8+m,none⟩)|17=>v=bm|18=>v=(pm:List UInt8)|19=>v=.string ⟨(acc++(Az gm++61::pm):List UInt8).toArray⟩|20=>v=.string ⟨(acc++(Az gm++61::pm):List UInt8).toArray⟩|_=>True)
     (fun L U W=>Below wr wr W) ((Aq _ _).drew) ?_ ?_
    ·exact fR
    rintro L U W hL hφ hR;have e20:U 20=.string ⟨(acc++(Az gm++61::pm):List UInt8).toArray⟩:=hφ 20 aL;simp only[e20];clear hφ;have Hb9:=Aa (Hbr.o.trans (hR.mono hzr));clear hL hR;go_wp2_with fail;go_roundw
    case rel=>exact⟨m+1,by go_num,by omega,by rw[HPn.o],Hb9.o⟩
    case measure=>simp[intOf];omega
   ·have em:m=ps.length:=cD;have HE:=Aa (show Ax 44 ((ps.take m).map fun p=>Aw (Ea p))=Ax 44 (ps.map fun p=>Aw (Ea p))by rw[em,List.take_length]);have hjm:(Ax 44 ((ps.take m).map fun p=>Aw (Ea p))).length<=100000000:=by rw[HE.o,Bs];exact Hlen.o
    clear em HJ;generalize Ax 44 ((ps.take m).map fun p=>Aw (Ea p))=jm at *;go_wp2_with fail;go_ret;exact⟨by rw[HF.o,<-HE.o];rfl,Hbr.o⟩)
 clear h ht h2 h3 hr1 hr2 hk hkl hkl2 ih Ih Hr1 Hr Hk hl hjl htg;go_enter func48,ntmps48;go_wp2_with fail;refine HN.o.mono ?_;rintro e w3 ⟨rfl,hb3⟩;have Hb3:=Aa hb3;clear hb3;go_wp2_with fail;exact jc
theorem Zw{S:List Ty}(hT:∀t∈S,Ek t)(P:Nat->Prop):∀(d:Nat) (k:Kd) (v:Vl),Ge S d k v->Cw k->∀(b:Nat) (w:World),En P w b (Bt S k v)->(Aw v).length<=100000000->Calls prog 48 #[b] w (Dz (Aw v) w):=by
 intro d;induction d with
 |zero=>intro k v h;cases h
 |succ d ih=>
  intro k v h hk b w hw hl;have hkl:=hk.2.2;cases h with
  |@n _ _ m hs hb h=>
   rw[Z8,show Be k=[110]by unfold Be Cj;rw[hs,hb];rfl]at hw;rw[show Aw (.mk 110 (Az m) 0 [])=Az m by simp[Aw,Di,Gl]];exact Rs P b 110 _ w (.inl rfl) hw
  |@t _ _ s hs hb h=>
   rw[Vk,show Be k=[116]by unfold Be Cj;rw[hs,hb];rfl]at hw;rw[show Aw (.mk 116 s 0 [])=39::(s++[39])by simp[Aw,Di,Gl]];exact Rs P b 116 _ w (.inr (.inl rfl)) hw
  |@f _ _ x hs hb=>
   rw[Vu,show Be k=[102]by unfold Be Cj;rw[hs,hb];rfl]at hw;rw[show Aw (.mk 102 (if x then Dk else H7) 0 [])=(if x then Dk else H7)by simp[Aw,Di,Gl]];exact Rs P b 102 _ w (.inr (.inr rfl)) hw
  |@lst _ _ r ks hs hl2 h=>
   have e:Be k=91::(r++Cj k):=ct;rw[P9,e]at hw;rw[e]at hkl;refine Qkn P b _ _ ks w hw bJ hl aK fun i hi hi2 b W hW hl3=>?_;rw[List.getElem_map]at hW;exact ih _ _ (h _ (ae hi2)) (Jk hk).1 b W hW hl3
  |@non _ _ r hs=>
   have e:Be k=63::(r++Cj k):=ct;rw[Mg,e]at hw;rw[e]at hkl;exact Qdq P b _ _ none w hw bJ hl rfl aK
  |@som _ _ r x hs h=>
   have e:Be k=63::(r++Cj k):=ct;rw[Mg,e]at hw;rw[e]at hkl;have hl3:(Aw x).length<=100000000:=by have:=hl;simp[Aw,Di,Gl,Ax]at this;omega
   refine Qdq P b _ _ (some x) w hw bJ hl rfl fun y hy b W z hz hW=>?_;injection hy with hy;subst hy;simp at hz;subst hz;exact ih _ _ h (Jk hk).1 b W hW hl3
  |@enm _ _ t f hs hb ht h9 hf=>
   have e:Be k=64::(k.name++[59]):=bT;rw[Qa,e]at hw;rw[e]at hkl;rw[show Aw (.mk 69 [] f.tag [])=35::Az f.tag by simp[Aw,Di,Gl]];exact Qly P b _ f.tag w hw bJ ((hT t (Bj ht).1).2.2.1.1 f (Ay hf).2).2.1
  |@uni _ _ t f x hs hb ht h5 hf h=>
   have e:Be k=64::(k.name++[59]):=bT;rw[Nr,e,E5 ht hf]at hw;rw[e]at hkl;have hkf:=Na hT ht dk (Ay hf).2;have e2:Aw (.mk 85 [] f.tag [x])=60::(Az f.tag++61::(Aw x++[62])):=by simp[Aw,Di,Gl,Ax]
   rw[e2]at hl ⊢;have hl3:(Aw x).length<=100000000:=by simp at hl;omega
   exact Qky P b _ f.tag _ (Aw x) w hw bJ hkf.2 hl3 fun b W hW=>ih _ _ h hkf.1 b W hW hl3
  |@rcd _ _ t fs hs hb ht h2 hf h hn hp=>
   have e:Be k=64::(k.name++[59]):=bT;rw[P2,e]at hw;rw[e]at hkl;have hkf:=fun p (hp:p∈fs)=>Na hT ht cJ (Ay (hf p hp)).2;refine Qlr P b _ _ fs w hw bJ hl aK (fun p hp=>(hkf p hp).2) fun i hi hi2 b W hW hl3=>?_;have hm:=ae hi2;rw[List.getElem_map,E5 ht (hf _ hm)]at hW;exact ih _ _ (h _ hm) (hkf _ hm).1 b W hW hl3
theorem Za{S:List Ty}(hT:∀t∈S,Ek t)(P:Nat->Prop):∀(d:Nat) (k:Kd) (v:Vl),Ge S d k v->Cw k->∀(b:Nat) (w:World),En P w b (Bt S k v)->(Aw v).length<=1000000->Calls prog 48 #[b] w (Dz (Aw v) w):=
 fun d k v h1 h2 b w h3 h4=>Zw hT P d k v h1 h2 b w h3 (ad h4 aL)
structure FbH(w0:World)(xv:Value)(S:List Ty)(k:Kd)(K:Kd->List UInt8->Option (Vl × List UInt8))(st nm fv:Value)(fs:List Fd)(d:Int):Prop where
 fld:∀(n:Nat) W,n<=999999->Below w0.heap.size w0 W->Calls prog 171 #[.agg #[st,nm,fv],.int .i64 (n:Int)] W fun e w'=>e=.returned (sfR (Ap fs n))/\Below W.heap.size W w'
 wh:∀n f,Ap fs n=some f->∀(s:List UInt8) W,Below w0.heap.size w0 W->s.length<=999->Calls prog 126 #[.agg #[xv],.string ⟨s.toArray⟩,.string ⟨(Be f.kind).toArray⟩,.int .i64 d] W (Qcn S f.kind (Cg (K f.kind) s) W)
 outp:∀n f,Ap fs n=some f->∀(s:List UInt8) v (P:Nat->Prop) (b:Nat) W,Cg (K f.kind) s=some v->s.length<=999->En P W b (Bt S f.kind v)->Calls prog 48 #[.pointer (some ⟨b,0,none⟩)] W (Dz (Aw v) W)
 sta:∀n f W,Ap fs n=some f->Below w0.heap.size w0 W->Calls prog 155 #[xv,.agg #[.int .i64 (f.tag:Int),.string ⟨f.name.toArray⟩,.string ⟨(Be f.kind).toArray⟩,.string ⟨f.given.toArray⟩]] W (H4 (Kr S f) W)
 sv:∀ps:List (Fd × Vl),(∀p∈ps,Ap fs p.1.tag=some p.1)->Bt S k (.mk 82 [] 0 (ps.map Ea))=.mk (Be k) [82] (ps.map fun p=>p.1.tag) (ps.map fun p=>Bt S p.1.kind p.2)
theorem Qe0(w0:World)(xv:Value)(hxv:xv.oneCell'=true)(S:List Ty)(k:Kd)(hkl:(Be k).length<=100)(K:Kd->List UInt8->Option (Vl × List UInt8))(nm:List UInt8)(A9:Option Addr)(c9:Nat)(fs:List Fd)(d:Nat)(hd:d<=1000)
  (HR0:FbH w0 xv S k K (.int .u8 82) (.string ⟨nm.toArray⟩) (.slice A9 fs.length c9) fs (d:Int)) (z:List UInt8) (w:World) (hw:Below w0.heap.size w0 w) (hz:z.length<=999) (q:Option (List (Fd × Vl) × List UInt8)) (hq:q=Dc S K fs 1000 0 z):
  Calls prog 247 #[.agg #[xv],.string ⟨z.toArray⟩,.string ⟨(Be k).toArray⟩,.agg #[.int .u8 82,.string ⟨nm.toArray⟩,.slice A9 fs.length c9],.int .i64 ((d+1:Nat):Int)] w (Bc S k (q.map fun y=>(.mk 82 [] 0 (y.1.map Ea),y.2)) w):=by
 have HH:=Aa HR0
 have HI:=Aa (show FQ S K fs q 0 z []from⟨999,hz,by rw[hq];cases Dc S K fs 1000 0 z<;>rfl⟩)
 have HW:=Aa hw
 have Hsv:=Aa HR0.sv
 generalize Be k=kb at *
 have d1:(((d+1:Nat):Int)) - 1=(d:Int):=by omega
 have d4:(0:Int)<=(d:Int):=by omega
 have d5:(d:Int)<=1000:=by omega
 have hwd:IntKind.i64.wrap (d:Int)=(d:Int):=IntWalk.i64_in _ (by omega)
 generalize (((d+1:Nat):Int))=dd at *
 clear HR0 hw hq
 obtain⟨W1,hW1⟩:∃W1,W1=((w.alloc (.cells #[xv] 79)).alloc (.cells #[.int .u8 82,.string ⟨nm.toArray⟩,.slice A9 fs.length c9] 143)).alloc (.cells #[.string ⟨kb.toArray⟩,.string ⟨#[82]⟩,.slice none 0 0,.slice none 0 0] 148):=⟨_,rfl⟩
 have L0:=Aa (show FbS w xv [.int .u8 82,.string ⟨nm.toArray⟩,.slice A9 fs.length c9] kb S fs W1 (.slice none 0 0) (.slice none 0 0) [] []from by
  have hS:=Eg.new (W:=(w.alloc (.cells #[xv] 79)).alloc (.cells #[.int .u8 82,.string ⟨nm.toArray⟩,.slice A9 fs.length c9] 143)) (T:=148) (.string ⟨kb.toArray⟩) (.string ⟨#[82]⟩)
  have hT:=Br (w.alloc (.cells #[xv] 79)) [.int .u8 82,.string ⟨nm.toArray⟩,.slice A9 fs.length c9] 143
  rw[hW1]
  refine⟨(((Aq w.heap.size w).alloc (Al _) _).alloc (by simp) _).alloc (by simp;omega) _,by simpa using hS,by go_simp,?_,rfl,by simp⟩
  rw[World.size_alloc]at hT
  exact Ar hT (B:=w.heap.size+1+1) (by omega) (((Aq _ _).alloc (by simp) _)))
 go_enter func247,ntmps247
 go_wp2_with fail
 rw[<-hW1]
 clear hW1
 go_loopw [1,14] (fun s0 i wr=>∃(A2:Option Addr) (c2:Nat) (A3:Option Addr) (c3:Nat) (ps:List (Fd × Vl)) (xs:List (Nat × SV)) (last:Nat) (tt:List UInt8),s0=.string ⟨tt.toArray⟩/\i=.int .i64 (last:Int)/\last<=999999/\tt.length<=z.length/\xs.length+tt.length<=z.length/\Hid (ps.length=xs.length)/\Hid (FbS w xv [.int .u8 82,.string ⟨nm.toArray⟩,.slice A9 fs.length c9] kb S fs wr (.slice A2 ps.length c2) (.slice A3 xs.length c3) ps xs)/\Hid (FQ S K fs q last tt ps)) (fun s0 _ _=>Mo s0)
 case atStart=>exact⟨none,0,none,0,[],[],0,z,rfl,rfl,by omega,Al _,by simp,rfl,L0.o,HI.o⟩
 case round=>
  obtain⟨A2,c2,A3,c3,ps,xs,last,tt,rfl,rfl,hla,htl,hxt,hpx,HL,HQ⟩:=hrel
  have HN:=Aa (Ji tt wr (by omega))
  obtain⟨o,ho⟩:∃o,Ag tt=o:=⟨_,rfl⟩
  rw[ho]at HN
  have Ho:=Aa ho
  have HWr:=Aa (show Below w0.heap.size w0 wr from HW.o.trans (HL.o.bel.mono HW.o.size))
  cases o with
  |none=>
   have HX:=Aa (show q=none from HQ.o.no ho)
   unfold ngV at HN
   clear ho
   go_wp2_with fail
   refine HN.o.mono ?_
   rintro e w2 ⟨rfl,k2,rfl⟩
   go_wp2_with fail
   go_ret3
   rw[HX.o]
   exact .no rfl rfl (HL.o.bel.trans (below_drewN (Aq _ _) k2))
  |some y=>
   obtain⟨g,r⟩:=y
   obtain⟨hg6,hrt⟩:=Cq ho
   unfold ngV at HN
   by_cases h0:g=0
   ·subst h0
    have HX:=Aa (show q=some (ps,r)from HQ.o.stop ho)
    clear ho
    go_wp2_with fail
    refine HN.o.mono ?_
    rintro e w2 ⟨rfl,k2,rfl⟩
    go_wp2_with fail
    go_ret3
    rw[HX.o]
    have L2:=HL.o.after (below_drewN (Aq wr.heap.size wr) k2)
    refine⟨⟨w.heap.size+2,rfl,?_⟩,L2.bel⟩
    rw[Hsv.o ps L2.fld,<-L2.eq]
    have hd9:=L2.st.done (kind:=kb) (text:=[82]) (by have:=hpx.o;simp;omega) (by omega)
    exact hd9.mono fun c1 hc _=>by have:w.heap.size+2<=c1:=hc;show w.heap.size<=c1;omega
   have Hst:=Aa (HQ.o.step ho h0)
   have g0:¬((g:Int)=0):=by omega
   clear ho HQ
   go_wp2_with fail
   refine HN.o.mono ?_
   rintro e w2 ⟨rfl,k2,rfl⟩
   have hb2:=below_drewN (Aq wr.heap.size wr) k2
   have L2:=Aa (HL.o.after hb2)
   have HW2:=Aa (HWr.o.trans (hb2.mono HWr.o.size))
   generalize hw2:World.drewN wr k2=w2
   rw[hw2]at L2 HW2
   clear hw2 hb2 HN HL HWr
   have HT:=Aa (Tx r w2 (by omega))
   obtain⟨op,hop⟩:∃op,Ed r=op:=⟨_,rfl⟩
   rw[hop]at HT Hst
   have hpl:=fun p z' (h:Ed r=some (p,z'))=>Ke h
   rw[hop]at hpl
   clear hop
   go_wp2_with fail
   cases op with
   |none=>
    have HX:=Aa (Hst.o.1 rfl)
    unfold tkV at HT
    clear Hst hpl
    refine HT.o.mono ?_
    rintro e w3 ⟨rfl,k3,rfl⟩
    go_wp2_with fail
    go_ret3
    rw[HX.o]
    exact .no rfl rfl (L2.o.bel.trans (below_drewN (Aq _ _) k3))
   |some y=>
    obtain⟨pt,z'⟩:=y
    have hp1:=hpl pt z' rfl
    unfold tkV at HT
    clear hpl
    refine HT.o.mono ?_
    rintro e w3 ⟨rfl,k3,rfl⟩
    have hb3:=below_drewN (Aq w2.heap.size w2) k3
    have L3:=Aa (L2.o.after hb3)
    have HW3:=Aa (HW2.o.trans (hb3.mono HW2.o.size))
    generalize hw3:World.drewN w2 k3=w3
    rw[hw3]at L3 HW3
    clear hw3 hb3 HT L2 HW2
    by_cases hle:g<=last
    ·have HX:=Aa (Hst.o.2.1 hle)
     have l1:(g:Int)<=(last:Int):=by omega
     clear Hst
     go_wp2_with fail
     go_ret3
     rw[HX.o]
     exact .no rfl rfl L3.o.bel
    have l1:¬((g:Int)<=(last:Int)):=by omega
    have Hs:=Aa (Hst.o.2.2 pt z' rfl hle)
    have HF:=Aa (HH.o.fld g w3 hg6 HW3.o)
    have y0:=Ab L3.o.ty 0 rfl
    have y1:=Ab L3.o.ty 1 rfl
    have y2:=Ab L3.o.ty 2 rfl
    simp only[Nat.zero_add]at y0 y1 y2
    clear Hst
    go_wp2_with fail
    refine HF.o.mono ?_
    rintro e w4 ⟨rfl,hb4⟩
    have L4:=Aa (L3.o.after hb4)
    have HW4:=Aa (HW3.o.trans (hb4.mono HW3.o.size))
    clear hb4 HF L3 HW3 y0 y1 y2
    obtain⟨of,hof⟩:∃of,Ap fs g=of:=⟨_,rfl⟩
    rw[hof]at Hs
    have Hof:=Aa hof
    rw[hof]
    clear hof
    cases of with
    |none=>
     have HQ4:=Aa (Hs.o.1 rfl)
     unfold sfR sf0
     go_wp2_with fail
     go_roundw
     case rel=>exact⟨A2,c2,A3,c3,ps,xs,g,z',rfl,rfl,hg6,by omega,by omega,hpx,L4.o.after ((Aq _ _).alloc (Al _) _),HQ4.o⟩
     case measure=>simp[Mo,ByteArray.size]<;>omega
    |some f=>
     have HsF:=Aa (Hs.o.2 f rfl)
     unfold sfR sfV
     obtain⟨W5,hW5⟩:∃W5,W5=w4.alloc (.cells #[.int .i64 (f.tag:Int),.string ⟨f.name.toArray⟩,.string ⟨(Be f.kind).toArray⟩,.string ⟨f.given.toArray⟩] 157):=⟨_,rfl⟩
     have hb5:Below w4.heap.size w4 W5:=by rw[hW5];exact(Aq _ _).alloc (Al _) _
     have L5:=Aa (L4.o.after hb5)
     have HW5:=Aa (HW4.o.trans (hb5.mono HW4.o.size))
     have Hrg:=Aa (show W5.rangeAt w4.heap.size 0 [.int .i64 (f.tag:Int),.string ⟨f.name.toArray⟩,.string ⟨(Be f.kind).toArray⟩,.string ⟨f.given.toArray⟩]from by rw[hW5];exact Br w4 [.int .i64 (f.tag:Int),.string ⟨f.name.toArray⟩,.string ⟨(Be f.kind).toArray⟩,.string ⟨f.given.toArray⟩] _)
     have hBl:w4.heap.size<W5.heap.size:=by rw[hW5];simp
     have hBb:w.heap.size+3<=w4.heap.size:=L4.o.st.bs
     have HH5:=Aa (HH.o.wh g f Hof.o pt W5 HW5.o (by omega))
     obtain⟨ow,how⟩:∃ow,Cg (K f.kind) pt=ow:=⟨_,rfl⟩
     rw[how]at HH5 HsF
     have How:=Aa how
     have y2:W5.cell? ⟨w4.heap.size,2,none⟩=some (.string ⟨(Be f.kind).toArray⟩):=by simpa using Ab Hrg.o 2 rfl
     have p0:=L5.o.box
     have hl0:w.heap.size<W5.heap.size:=by omega
     clear how Hs
     go_upto_region 14 with fail
     rw[<-hW5]
     clear hW5 hb5 L4 HW4
     generalize w4.heap.size=B at *
     go_wp2_with fail
     refine HH5.o.mono ?_
     rintro e w6 ⟨ho6,hb6⟩
     have L6:=Aa (L5.o.after hb6)
     have HW6:=Aa (HW5.o.trans (hb6.mono HW5.o.size))
     have Hrg6:=Aa (Ar Hrg.o hBl hb6)
     have hB6:=Nat.lt_of_lt_of_le hBl hb6.size
     have hz6:=hb6.size
     have HKt:=Aa (fun c h=>(L5.o.st.tags.lt c h).2)
     have HKr:=Aa (fun c h=>(L5.o.st.row.lt c h).2)
     have HKb:=Aa L5.o.st.bs
     clear hb6 HH5 L5 HW5 Hrg hBl y2 p0 hl0
     cases ow with
     |none=>
      have HX:=Aa (HsF.o.1 rfl)
      obtain⟨qa,rfl⟩:=ho6
      go_wp2_with fail
      go_ret3
      rw[HX.o]
      exact .no rfl rfl L6.o.bel
     |some v=>
      obtain⟨b,rfl,hsv⟩:=ho6
      have HQ6:=Aa (HsF.o.2 v rfl)
      have HO:=Aa (fun W' (hb:Below w6.heap.size w6 W')=>HH.o.outp g f Hof.o pt v _ b W' How.o (by omega) (hsv.after hb))
      have HS:=Aa (fun W' (hb:Below w6.heap.size w6 W')=>HH.o.sta g f W' Hof.o (HW6.o.trans (hb.mono HW6.o.size)))
      have Hs6:=Aa hsv
      have y0:w6.cell? ⟨B,0,none⟩=some (.int .i64 (f.tag:Int)):=by simpa using Ab Hrg6.o 0 rfl
      have y1:w6.cell? ⟨B,1,none⟩=some (.string ⟨f.name.toArray⟩):=by simpa using Ab Hrg6.o 1 rfl
      have y2:w6.cell? ⟨B,2,none⟩=some (.string ⟨(Be f.kind).toArray⟩):=by simpa using Ab Hrg6.o 2 rfl
      have y3:w6.cell? ⟨B,3,none⟩=some (.string ⟨f.given.toArray⟩):=by simpa using Ab Hrg6.o 3 rfl
      have p0:=L6.o.box
      have hl6:w.heap.size<w6.heap.size:=by omega
      clear hsv
      go_wp2_with fail
      refine rgB ?_
      refine sq ?_
      refine sqC HO.o ?_
      iterate 3 refine sq ?_
      refine sqC HS.o ?_
      refine sq ?_
      refine dnB fun w7 HX=>?_
      have L7:=Aa (L6.o.after HX.o)
      have S7:=Aa (Hs6.o.after HX.o)
      have hz7:=HX.o.size
      clear y0 y1 y2 y3 p0 HO HS Hs6 L6 HX HW6 Hrg6
      by_cases hpo:Aw v=Kr S f
      ·have HQ7:=Aa (show FQ S K fs q g z' ps from by have:=HQ6.o;rwa [if_pos hpo]at this)
       have hpe:(!Aw v == Kr S f)=false:=by rw[hpo];simp
       rw[hpe]
       clear hpe hpo HQ6
       go_wp2_with fail
       go_roundw
       case rel=>exact⟨A2,c2,A3,c3,ps,xs,g,z',rfl,rfl,hg6,by omega,by omega,hpx,L7.o,HQ7.o⟩
       case measure=>simp[Mo,ByteArray.size]<;>omega
      have HQ7:=Aa (show FQ S K fs q g z' (ps++[(f,v)])from by have:=HQ6.o;rwa [if_neg hpo]at this)
      have hpe:(!Aw v == Kr S f)=true:=by simpa using hpo
      rw[hpe]
      clear hpe hpo HQ6
      have x2:w7.cell? ⟨w.heap.size+1+1,2,none⟩=some (.slice A2 ps.length c2):=L7.o.st.c2
      have x4:=L7.o.st.lt
      have hgl:(ps.map fun p=>p.1.tag).length=ps.length:=by simp
      have hxz:xs.length<=999:=by omega
      have hpz:ps.length<=999:=by have:=hpx.o;omega
      have hTg:=Aa (Ay Hof.o).1
      go_upto_region 20 with(at_builtin;go_loud (refine Fg _ rfl _ _ 32 rfl (w.heap.size+3) 3 (.int .i64 0) 8 underlying32 Qge rfl w7 (.int .i64 (g:Int)) rfl rfl (.slice A2 ps.length c2) ps.length (Dm (ps.map fun p=>p.1.tag)) rfl rfl (by rw[<-hgl];exact hgl ▸ L7.o.st.tags) (by unfold maxLen;omega) (by omega) L7.o.st.bs ?_;intro v8 w8 hown8 hg8 hwh8;obtain⟨A8,c8,e8,hS8,hb8⟩:=Eg.pushT (n:=ps.length) (g:=g) L7.o.st (by rw[hgl];exact hown8) hg8 hwh8;subst e8;have HS8:=Aa hS8;have HB8:=Aa hb8;have p3:w8.cell? ⟨w.heap.size+1+1,2,none⟩=some (.slice A2 ps.length c2):=hS8.c2;have f3:w8.frozen? ⟨w.heap.size+1+1,2,none⟩=false:=hS8.bk.live 2;have hz8:=hS8.lt;have S8:=Aa (((S7.o.mono (Q:=fun c=>W5.heap.size<=c/\c<w7.heap.size) fun c hc hl=>⟨hc,hl⟩).grown hg8 (fun c hc e=>by have:=HKt.o c e.symm;omega)).mono (Q:=fun c1=>w.heap.size+3<=c1/\(Value.slice A3 xs.length c3).ownBlock≠some c1/\(Value.slice A8 ((ps.map fun p=>p.1.tag)++[g]).length c8).ownBlock≠some c1) fun c hc _=>⟨Nat.le_trans HKb.o hc.1,fun e=>by have:=HKr.o c e;omega,fun e=>hwh8.elim (fun e2=>by have:=HKt.o c (e2 ▸ e);omega) (fun⟨k,e2,hk⟩=>by rw[e2]at e;injection e with e;omega)⟩);clear hS8 hb8 hown8 hg8 hwh8))
      have hV:w.heap.size+2=w.heap.size+1+1:=rfl
      have e9:((ps.map fun p=>p.1.tag)++[g]).length=ps.length+1:=by simp
      rw[e9]at HS8 S8
      generalize hw9:World.setCell w8 _ _=w9
      have hw8:w9=w8.setCell ⟨w.heap.size+2,2,none⟩ (.slice A8 (ps.length+1) c8):=hw9.symm
      have HS9:=Aa (show Eg (w.heap.size+3) (w.heap.size+2) w9 (.string ⟨kb.toArray⟩) (.string ⟨#[82]⟩) (.slice A8 (ps.length+1) c8) (.slice A8 (ps.length+1) c8) (.slice A3 xs.length c3) (.slice A3 xs.length c3) ((ps.map fun p=>p.1.tag)++[g]) xs from by rw[hw8];exact HS8.o.set2)
      have S9:=Aa (show En _ w9 b (Bt S f.kind v)from by rw[hw8];exact S8.o.grown (Ai w8 (w.heap.size+2) 2 (.slice A8 (ps.length+1) c8)) fun c hc e=>by injection e with e;have:=hc.1;omega)
      have HB9:=Aa (show Below (w.heap.size+2) w7 w9 from by rw[hw8];exact(HB8.o.mono (by omega)).setCell (p:=⟨w.heap.size+2,2,none⟩) (Al (w.heap.size+2)) _)
      clear hw9 hw8 x2 x4 p3 f3 hz8
      have x3:w9.cell? ⟨w.heap.size+1+1,3,none⟩=some (.slice A3 xs.length c3):=HS9.o.c3
      have x5:=HS9.o.lt
      go_wp2_with (at_builtin;go_loud (refine Fg _ rfl _ _ 146 rfl (w.heap.size+3) 76 (.pointer none) 8 underlying146 Rt rfl w9 (.pointer (some ⟨b,0,none⟩)) rfl rfl (.slice A3 xs.length c3) xs.length (Dr (xs.map (·.1))) rfl rfl HS9.o.row (by unfold maxLen;omega) (by omega) HS9.o.bs ?_;intro v10 w10 hown10 hg10 hwh10;obtain⟨A10,c10,e10,hS10,hb10⟩:=HS9.o.push (x:=(b,Bt S f.kind v)) S9.o hown10 hg10 hwh10;subst e10;have HS10:=Aa hS10;have HB10:=Aa hb10;have r3:w10.cell? ⟨w.heap.size+1+1,3,none⟩=some (.slice A3 xs.length c3):=hS10.c3;have r4:w10.frozen? ⟨w.heap.size+1+1,3,none⟩=false:=hS10.bk.live 3;have hz10:=hS10.lt;clear hS10 hb10 hown10 hg10 hwh10))
      have HS11:=Aa HS10.o.set3
      have hbx:Below (w.heap.size+2) w7 (w10.setCell ⟨w.heap.size+2,3,none⟩ (.slice A10 (xs++[(b,Bt S f.kind v)]).length c10)):=(HB9.o.trans ((HB10.o.mono (by omega)))).setCell (p:=⟨w.heap.size+2,3,none⟩) (Al (w.heap.size+2)) _
      have el:(xs++[(b,Bt S f.kind v)]).length=xs.length+1:=by simp
      have eg:(ps.map fun p=>p.1.tag)++[g]=(ps++[(f,v)]).map fun p=>p.1.tag:=by simp[hTg.o]
      have el2:ps.length+1=(ps++[(f,v)]).length:=by simp
      have L11:=Aa (show FbS w xv [.int .u8 82,.string ⟨nm.toArray⟩,.slice A9 fs.length c9] kb S fs (w10.setCell ⟨w.heap.size+2,3,none⟩ (.slice A10 (xs++[(b,Bt S f.kind v)]).length c10)) (.slice A8 (ps++[(f,v)]).length c8) (.slice A10 (xs++[(b,Bt S f.kind v)]).length c10) (ps++[(f,v)]) (xs++[(b,Bt S f.kind v)])from
       ⟨L7.o.bel.trans (hbx.mono (by omega)),by rw[<-eg,<-el2];exact HS11.o,(hbx.cell (p:=⟨w.heap.size,0,none⟩) (by show w.heap.size<w.heap.size+2;omega)).trans L7.o.box,Ar L7.o.ty (by omega) hbx,by simp[L7.o.eq],fun p hp=>by
        rcases List.mem_append.1 hp with hp|hp
        ·exact L7.o.fld p hp
        rw[List.mem_singleton]at hp;subst hp;show Ap fs f.tag=some f;rw[hTg.o];exact Hof.o⟩)
      rw[el]at L11
      go_roundw
      case rel=>exact⟨A8,c8,A10,c10,ps++[(f,v)],xs++[(b,Bt S f.kind v)],g,z',rfl,rfl,hg6,by omega,by omega,(show (ps++[(f,v)]).length=(xs++[(b,Bt S f.kind v)]).length from by have:=hpx.o;simp[this]),by rw[el];exact L11.o,HQ7.o⟩
      case measure=>simp[Mo,ByteArray.size]<;>omega
theorem Qnx(w0:World)(xs:List (Ty × Value))(A:Option Addr)(c:Nat)(hsc:Gj w0 (.slice A xs.length c) xs)(hok:Kt (Af xs))(k:Kd)(t:Ty)(tv:Value)(hx:D9 xs k.name=some (t,tv))(h2:t.sort=82)(d:Nat)
  (H:∀k',Cw k'->Bu (Af xs) k'->SgC w0 (Af xs) (.slice A xs.length c) k' d):FbH w0 (.slice A xs.length c) (Af xs) k (E9 (Af xs) d) (.int .u8 82) (.string ⟨t.name.toArray⟩) tv t.fields (d:Int):=by
 obtain⟨hm,_,hft⟩:=Cl hx
 have htS:t∈Af xs:=(Bj hft).1
 have hty:=hok.1.1 t htS
 have h9:t.sort≠69:=by rw[h2];decide
 have hfs:D8 w0 tv t.fields:=by obtain⟨_,_,_,_,_,hf⟩:=hsc;exact hf _ hm
 have hfo:∀f∈t.fields,Su t.sort f:=hty.2.2.1.1
 have hkd:∀n f,Ap t.fields n=some f->Cw f.kind/\Bu (Af xs) f.kind:=fun n f hf=>⟨((hfo f (Ay hf).2).2.2.2.2 h9).1,hok.2.1 t htS h9 f (Ay hf).2⟩
 refine⟨fun n W hn hW=>?_,fun n f hf s W hW hs=>?_,fun n f hf s v P b W hv hs hsv=>?_,fun n f W hf hW=>?_,fun ps hp=>?_⟩
 ·exact Pm _ _ _ t.fields n W (hfs.below hW) (by omega)
 ·exact Se w0 _ _ rfl f.kind d (H f.kind (hkd n f hf).1 (hkd n f hf).2) s W hW hs _ rfl
 ·have hr:=D3 hv
  exact Za hok.1.1 P d f.kind v (Mc hok.1.1 d f.kind s v [] (hkd n f hf).1 hr) (hkd n f hf).1 b W hsv (by have:=Sw d f.kind s v [] hr;omega)
 ·have h1:=hfo f (Ay hf).2
  exact Ry _ xs hok f W (hsc.below hW) (hkd n f hf).1 (hkd n f hf).2 (Nat.le_trans (Vp h1) (by decide))
 rw[P2]
 congr 1
 refine List.map_congr_left fun p hp'=>?_
 rw[E5 hft (hp p hp')]
theorem Qkx(w0:World)(xs:List (Ty × Value))(xv:Value)(hxv:xv.oneCell'=true)(hsc:Gj w0 xv xs)(k:Kd)(hk:Cw k)(hsg:k.signs=[])(hb:k.base=[64])(t:Ty)(tv:Value)(hx:D9 xs k.name=some (t,tv))(h2:t.sort=82)(s:List UInt8)(dd:Int)(w:World)(hw:Below w0.heap.size w0 w)(q:Option (Vl × List UInt8))
  (HF:∀W,Below w0.heap.size w0 W->Calls prog 247 #[.agg #[xv],.string ⟨s.toArray⟩,.string ⟨(Be k).toArray⟩,.agg #[.int .u8 82,.string ⟨t.name.toArray⟩,tv],.int .i64 dd] W (Bc (Af xs) k q W)):
  Calls prog 220 #[.agg #[xv],.string ⟨s.toArray⟩,.string ⟨(Be k).toArray⟩,.int .i64 dd] w (Bc (Af xs) k q w):=by
 obtain⟨A9,c9,rfl⟩:∃A9 c9,tv=.slice A9 t.fields.length c9:=by
  have hm:=(Cl hx).1
  have hfs:D8 w0 tv t.fields:=by obtain⟨_,_,_,_,_,hf⟩:=hsc;exact hf _ hm
  obtain⟨A9,c9,e,_⟩:=hfs
  exact⟨A9,c9,e⟩
 have hrf:Jn xs k=D9 xs k.name:=if_pos ⟨hsg,hb⟩
 have HR:=Aa (fun W (hW:Below w0.heap.size w0 W)=>Fb xv xs k W (hsc.below hW) hk)
 rw[hrf,hx]at HR
 have HF:=Aa HF
 have HW:=Aa hw
 have HB:=Aa (show Below w.heap.size w (w.alloc (.cells #[xv] 79))from(Aq _ _).alloc (Al _) _)
 have HB0:=Aa (HW.o.trans (HB.o.mono HW.o.size))
 simp only[Rv,Pu,h2]at HR
 clear hsc hx hrf hw
 go_enter func220,ntmps220
 go_wp2_with fail
 refine(HR.o _ HB0.o).mono ?_
 rintro e w2 ⟨rfl,hb2⟩
 have Hb2:=Aa (HB.o.trans (hb2.mono (by simp)))
 have c0:w2.cell? ⟨w.heap.size,0,none⟩=some xv:=(hb2.cell (p:=⟨w.heap.size,0,none⟩) (by simp)).trans (by simp)
 have hz2:w.heap.size<w2.heap.size:=Nat.lt_of_lt_of_le (by simp) hb2.size
 have Hal:=Aa (fun o=>(Aq w2.heap.size w2).alloc (Al _) o)
 clear hb2 HR
 go_wp2_with fail
 refine(HF.o _ (HW.o.trans ((Hb2.o.trans ((Hal.o _).mono Hb2.o.size)).mono HW.o.size))).mono ?_
 rintro e w4 ⟨ho,hb4⟩
 have Hb4:=Aa ((Hb2.o.trans ((Hal.o _).mono Hb2.o.size)).trans (hb4.mono (by simp;omega)))
 clear HF
 cases q with
 |none=>
  obtain⟨qa,ra,rfl⟩:=ho
  clear hb4
  go_wp2_with fail
  go_ret3
  exact .no rfl rfl Hb4.o
 |some y=>
  obtain⟨b,rfl,hv⟩:=ho
  have HV:=Aa (hv.mono (Q:=fun c=>w.heap.size<=c) fun c hc _=>by simp at hc;omega)
  clear hv hb4
  go_wp2_with fail
  go_ret3
  exact⟨⟨b,rfl,HV.o⟩,Hb4.o⟩
theorem En.tag1{P:Nat->Prop}{w:World}{kind text:List UInt8}{g:Nat}(hP:∀c,w.heap.size<=c->P c){T U:TypeId}:
  En P ((w.alloc (.cells #[.int .i64 (g:Int)] T)).alloc (.cells #[.string ⟨kind.toArray⟩,.string ⟨text.toArray⟩,.slice (some ⟨w.heap.size,0,none⟩) 1 1,.slice none 0 0] U)) (w.heap.size+1) (.mk kind text [g] []):=by
 refine .mk kind text [g] (some ⟨w.heap.size,0,none⟩) none 1 0 [] rfl (by simp) (hP _ (by omega)) (by simp[go_sem]) (by simp[go_sem]) (by simp[go_sem]) (by simp[go_sem]) ⟨by simp[Dm],by simp[maxLen],fun _=>⟨w.heap.size,0,rfl,by simp;omega,fun j u hu=>?_⟩⟩ ⟨rfl,Nat.zero_le _,fun h=>absurd h (by simp)⟩ (by simp) (by simp) (fun g' o _ e=>?_) (fun _ _ h=>absurd h (by simp)) (by simp)
 ·match j,hu with
  |0,hu=>simp[Dm]at hu;subst hu;simp[go_sem]
  |j+1,hu=>simp[Dm]at hu
 injection e with e;injection e with e;subst e;exact hP _ (Al _)
theorem Qkf(w0:World)(xs:List (Ty × Value))(xv:Value)(hxv:xv.oneCell'=true)(hsc:Gj w0 xv xs)(k:Kd)(hk:Cw k)(hsg:k.signs=[])(hb:k.base=[64])(t:Ty)(tv:Value)(hx:D9 xs k.name=some (t,tv))(h2:t.sort=69)(s:List UInt8)(hs:s.length<=999)(dd:Int)(w:World)(hw:Below w0.heap.size w0 w)(q:Option (Vl × List UInt8))
  (hq:q=match Ag s with|none=>none|some (n,r)=>(Ap t.fields n).map fun _=>(.mk 69 [] n [],r)):
  Calls prog 220 #[.agg #[xv],.string ⟨s.toArray⟩,.string ⟨(Be k).toArray⟩,.int .i64 dd] w (Bc (Af xs) k q w):=by
 have hm:=(Cl hx).1
 have hfs:D8 w0 tv t.fields:=by obtain⟨_,_,_,_,_,hf⟩:=hsc;exact hf _ hm
 have HFl:=Aa (fun n W (hn:n<=999999) (hW:Below w0.heap.size w0 W)=>Pm (.int .u8 69) (.string ⟨t.name.toArray⟩) tv t.fields n W (hfs.below hW) (by omega))
 obtain⟨A9,c9,rfl⟩:∃A9 c9,tv=.slice A9 t.fields.length c9:=by
  obtain⟨A9,c9,e,_⟩:=hfs
  exact⟨A9,c9,e⟩
 have hrf:Jn xs k=D9 xs k.name:=if_pos ⟨hsg,hb⟩
 have HR:=Aa (fun W (hW:Below w0.heap.size w0 W)=>Fb xv xs k W (hsc.below hW) hk)
 rw[hrf,hx]at HR
 have HW:=Aa hw
 have HQ:=Aa hq
 have HNm:=Aa (fun W=>Ji s W (by omega))
 have HB:=Aa (show Below w.heap.size w (w.alloc (.cells #[xv] 79))from(Aq _ _).alloc (Al _) _)
 have HB0:=Aa (HW.o.trans (HB.o.mono HW.o.size))
 simp only[Rv,Pu,h2]at HR
 obtain⟨n,r,ok,hok,hn⟩:∃n r ok,ngV (Ag s)=.tuple #[.int .i64 (n:Nat),.string ⟨(r:List UInt8).toArray⟩,.bool ok]/\n<=999999/\q=(if ok then(Ap t.fields n).map fun _=>(.mk 69 [] n [],r)else none):=by
  rw[hq]
  cases h:Ag s with
  |none=>exact⟨0,[],false,rfl,by decide,rfl⟩
  |some y=>obtain⟨n,r⟩:=y;exact⟨n,r,true,rfl,(Cq h).1,rfl⟩
 rw[hok]at HNm
 have HQ:=Aa hn.2
 have hn6:=hn.1
 clear hsc hx hrf hw hq hfs hm hok hn
 go_enter func220,ntmps220
 go_wp2_with fail
 refine(HR.o _ HB0.o).mono ?_
 rintro e w2 ⟨rfl,hb2⟩
 have Hb2:=Aa (HB.o.trans (hb2.mono (by simp)))
 have hz2:w.heap.size<w2.heap.size:=Nat.lt_of_lt_of_le (by simp) hb2.size
 clear hb2 HR
 go_wp2_with fail
 refine(HNm.o _).mono ?_
 rintro e w3 ⟨rfl,k3,rfl⟩
 have hb3:Below w2.heap.size w2 ((w2.alloc (.cells #[.int .u8 69,.string ⟨t.name.toArray⟩,.slice A9 t.fields.length c9] 143)).drewN k3):=below_drewN ((Aq _ _).alloc (Al _) _) k3
 have y0:((w2.alloc (.cells #[.int .u8 69,.string ⟨t.name.toArray⟩,.slice A9 t.fields.length c9] 143)).drewN k3).cell? ⟨w2.heap.size,0,none⟩=some (.int .u8 69):=by rw[World.cell?_drewN];simp
 have y1:((w2.alloc (.cells #[.int .u8 69,.string ⟨t.name.toArray⟩,.slice A9 t.fields.length c9] 143)).drewN k3).cell? ⟨w2.heap.size,1,none⟩=some (.string ⟨t.name.toArray⟩):=by rw[World.cell?_drewN];simp
 have y2:((w2.alloc (.cells #[.int .u8 69,.string ⟨t.name.toArray⟩,.slice A9 t.fields.length c9] 143)).drewN k3).cell? ⟨w2.heap.size,2,none⟩=some (.slice A9 t.fields.length c9):=by rw[World.cell?_drewN];simp
 have hz3:w2.heap.size<((w2.alloc (.cells #[.int .u8 69,.string ⟨t.name.toArray⟩,.slice A9 t.fields.length c9] 143)).drewN k3).heap.size:=by simp
 generalize World.drewN _ k3=w3 at *
 have Hb3:=Aa (Hb2.o.trans (hb3.mono Hb2.o.size))
 clear hb3
 go_wp2_with fail
 refine(HFl.o n w3 hn6 (HW.o.trans (Hb3.o.mono HW.o.size))).mono ?_
 rintro e w4 ⟨rfl,hb4⟩
 have y0':=(hb4.cell (p:=⟨w2.heap.size,0,none⟩) hz3).trans y0
 have Hb4:=Aa (Hb3.o.trans (hb4.mono Hb3.o.size))
 have hz4:=hb4.size
 have hl4:w2.heap.size<w4.heap.size:=by omega
 clear hb4 HFl y0 y1 y2
 have Hal:=Aa (fun o=>Hb4.o.alloc Hb4.o.size o)
 have hne:¬(w2.heap.size=w4.heap.size):=by omega
 cases ok with
 |false=>
  have HQ:=Aa (show q=none from HQ.o)
  cases Ap t.fields n with
  |none=>
   unfold sfR sf0
   go_wp2_with fail
   go_ret3
   exact .no HQ.o rfl (Hal.o _)
  |some f=>
   unfold sfR sfV
   go_wp2_with fail
   go_ret3
   exact .no HQ.o rfl (Hal.o _)
 |true=>
  have HQa:=Aa (show q=(Ap t.fields n).map fun _=>(.mk 69 [] n [],r)from by rw[HQ.o];rfl)
  clear HQ
  cases hf:Ap t.fields n with
  |none=>
   have HQ2:=Aa (show q=none from by rw[HQa.o,hf];rfl)
   unfold sfR sf0
   clear hf HQa
   go_wp2_with fail
   go_ret3
   exact .no HQ2.o rfl (Hal.o _)
  |some f=>
   have HQ2:=Aa (show q=some (.mk 69 [] n [],r)from by rw[HQa.o,hf];rfl)
   unfold sfR sfV
   clear hf HQa
   go_wp2_with fail
   go_ret3
   rw[HQ2.o]
   refine⟨⟨w4.heap.size+1+1,rfl,?_⟩,((Hal.o _).alloc (Hal.o _).size _).alloc (by have:=(Hal.o (.cells #[] 0)).size;simp at this ⊢;omega) _⟩
   rw[Qa]
   have h:=En.tag1 (P:=fun c=>w.heap.size<=c) (w:=w4.alloc (.cells #[.int .i64 (f.tag:Int),.string ⟨f.name.toArray⟩,.string ⟨(Be f.kind).toArray⟩,.string ⟨f.given.toArray⟩] 157)) (kind:=Be k) (text:=[69]) (g:=n) (T:=3) (U:=148) (fun c hc=>by simp at hc;show w.heap.size<=c;omega)
   simpa using h
theorem En.tagK{P:Nat->Prop}{w:World}{kind text:List UInt8}{g b:Nat}{v:SV}(h:En P w b v)(hP:∀c,w.heap.size<=c->P c){T T2 U:TypeId}:
  En P (((w.alloc (.cells #[.int .i64 (g:Int)] T)).alloc (.cells #[.pointer (some ⟨b,0,none⟩)] T2)).alloc (.cells #[.string ⟨kind.toArray⟩,.string ⟨text.toArray⟩,.slice (some ⟨w.heap.size,0,none⟩) 1 1,.slice (some ⟨w.heap.size+1,0,none⟩) 1 1] U)) (w.heap.size+1+1) (.mk kind text [g] [v]):=by
 have hb:Below w.heap.size w (((w.alloc (.cells #[.int .i64 (g:Int)] T)).alloc (.cells #[.pointer (some ⟨b,0,none⟩)] T2)).alloc (.cells #[.string ⟨kind.toArray⟩,.string ⟨text.toArray⟩,.slice (some ⟨w.heap.size,0,none⟩) 1 1,.slice (some ⟨w.heap.size+1,0,none⟩) 1 1] U)):=(((Aq w.heap.size w).alloc (Al _) _).alloc (by simp) _).alloc (by simp<;>omega) _
 refine .mk kind text [g] (some ⟨w.heap.size,0,none⟩) (some ⟨w.heap.size+1,0,none⟩) 1 1 [(b,v)] rfl (by simp) (hP _ (by omega)) (by simp[go_sem]) (by simp[go_sem]) (by simp[go_sem]) (by simp[go_sem]) ⟨by simp[Dm],by simp[maxLen],fun _=>⟨w.heap.size,0,rfl,by simp<;>omega,fun j u hu=>?_⟩⟩ ⟨by simp[Dr],by simp[maxLen],fun _=>⟨w.heap.size+1,0,rfl,by simp<;>omega,fun j u hu=>?_⟩⟩ (by simp) (by simp) (fun g' o _ e=>?_) (fun g' o _ e=>?_) (fun x hx=>?_)
 ·match j,hu with
  |0,hu=>simp[Dm]at hu;subst hu;simp[go_sem]
  |j+1,hu=>simp[Dm]at hu
 ·match j,hu with
  |0,hu=>simp[Dr]at hu;subst hu;simp[go_sem]
  |j+1,hu=>simp[Dr]at hu
 ·injection e with e;injection e with e;subst e;exact hP _ (Al _)
 ·injection e with e;injection e with e;subst e;exact hP _ (by omega)
 simp at hx;subst hx;exact h.after hb
theorem Qkz(w0:World)(xs:List (Ty × Value))(xv:Value)(hxv:xv.oneCell'=true)(hsc:Gj w0 xv xs)(k:Kd)(hk:Cw k)(hsg:k.signs=[])(hb:k.base=[64])(t:Ty)(tv:Value)(hx:D9 xs k.name=some (t,tv))(h2:t.sort=85)(s:List UInt8)(hs:s.length<=999)(dd d:Int)(hdd:dd - 1=d)(hd0:0<=d)(hd1:d<=1000)(K:Kd->List UInt8->Option (Vl × List UInt8))(HWh:∀n f,Ap t.fields n=some f->∀(p:List UInt8) W,Below w0.heap.size w0 W->p.length<=999->Calls prog 126 #[.agg #[xv],.string ⟨p.toArray⟩,.string ⟨(Be f.kind).toArray⟩,.int .i64 d] W (Qcn (Af xs) f.kind (Cg (K f.kind) p) W))(w:World)(hw:Below w0.heap.size w0 w)(q:Option (Vl × List UInt8))
  (hq:q=match Ag s with|none=>none|some (n,r)=>match Ed r with|none=>none|some (p,z)=>(Ap t.fields n).bind fun f=>(Cg (K f.kind) p).map fun v=>(.mk 85 [] n [v],z)):
  Calls prog 220 #[.agg #[xv],.string ⟨s.toArray⟩,.string ⟨(Be k).toArray⟩,.int .i64 dd] w (Bc (Af xs) k q w):=by
 have hm:=(Cl hx).1
 have hfs:D8 w0 tv t.fields:=by obtain⟨_,_,_,_,_,hf⟩:=hsc;exact hf _ hm
 have HFl:=Aa (fun n W (hn:n<=999999) (hW:Below w0.heap.size w0 W)=>Pm (.int .u8 85) (.string ⟨t.name.toArray⟩) tv t.fields n W (hfs.below hW) (by omega))
 obtain⟨A9,c9,rfl⟩:∃A9 c9,tv=.slice A9 t.fields.length c9:=by
  obtain⟨A9,c9,e,_⟩:=hfs
  exact⟨A9,c9,e⟩
 have hrf:Jn xs k=D9 xs k.name:=if_pos ⟨hsg,hb⟩
 have HR:=Aa (fun W (hW:Below w0.heap.size w0 W)=>Fb xv xs k W (hsc.below hW) hk)
 rw[hrf,hx]at HR
 have HW:=Aa hw
 have HQ:=Aa hq
 have HNm:=Aa (fun W=>Ji s W (by omega))
 have HB:=Aa (show Below w.heap.size w (w.alloc (.cells #[xv] 79))from(Aq _ _).alloc (Al _) _)
 have HB0:=Aa (HW.o.trans (HB.o.mono HW.o.size))
 simp only[Rv,Pu,h2]at HR
 obtain⟨n,r,ok,hok,hn⟩:∃n r ok,ngV (Ag s)=.tuple #[.int .i64 (n:Nat),.string ⟨(r:List UInt8).toArray⟩,.bool ok]/\n<=999999/\r.length<=s.length/\q=(if ok then(match Ed r with|none=>none|some (p,z)=>(Ap t.fields n).bind fun f=>(Cg (K f.kind) p).map fun v=>(.mk 85 [] n [v],z))else none):=by
  rw[hq]
  cases h:Ag s with
  |none=>exact⟨0,[],false,rfl,by decide,by simp,rfl⟩
  |some y=>obtain⟨n,r⟩:=y;exact⟨n,r,true,rfl,(Cq h).1,by have:=(Cq h).2;omega,rfl⟩
 rw[hok]at HNm
 have HQ:=Aa hn.2.2
 have hn6:=hn.1
 have hrs:=hn.2.1
 have hwd:IntKind.i64.wrap d=d:=IntWalk.i64_in _ (by omega)
 have HTk:=Aa (fun W=>Tx r W (by omega))
 have HWh:=Aa HWh
 have hft:=(Cl hx).2.2
 clear hsc hx hrf hw hq hfs hm hok hn
 go_enter func220,ntmps220
 go_wp2_with fail
 refine(HR.o _ HB0.o).mono ?_
 rintro e w2 ⟨rfl,hb2⟩
 have Hb2:=Aa (HB.o.trans (hb2.mono (by simp)))
 have hz2:w.heap.size<w2.heap.size:=Nat.lt_of_lt_of_le (by simp) hb2.size
 have zx2:w2.cell? ⟨w.heap.size,0,none⟩=some xv:=(hb2.cell (p:=⟨w.heap.size,0,none⟩) (by simp)).trans (by simp)
 have ZX2:=Aa zx2
 clear hb2 HR zx2
 go_wp2_with fail
 refine(HNm.o _).mono ?_
 rintro e w3 ⟨rfl,k3,rfl⟩
 have hb3:Below w2.heap.size w2 ((w2.alloc (.cells #[.int .u8 85,.string ⟨t.name.toArray⟩,.slice A9 t.fields.length c9] 143)).drewN k3):=below_drewN ((Aq _ _).alloc (Al _) _) k3
 have y0:((w2.alloc (.cells #[.int .u8 85,.string ⟨t.name.toArray⟩,.slice A9 t.fields.length c9] 143)).drewN k3).cell? ⟨w2.heap.size,0,none⟩=some (.int .u8 85):=by rw[World.cell?_drewN];simp
 have y1:((w2.alloc (.cells #[.int .u8 85,.string ⟨t.name.toArray⟩,.slice A9 t.fields.length c9] 143)).drewN k3).cell? ⟨w2.heap.size,1,none⟩=some (.string ⟨t.name.toArray⟩):=by rw[World.cell?_drewN];simp
 have y2:((w2.alloc (.cells #[.int .u8 85,.string ⟨t.name.toArray⟩,.slice A9 t.fields.length c9] 143)).drewN k3).cell? ⟨w2.heap.size,2,none⟩=some (.slice A9 t.fields.length c9):=by rw[World.cell?_drewN];simp
 have hz3:w2.heap.size<((w2.alloc (.cells #[.int .u8 85,.string ⟨t.name.toArray⟩,.slice A9 t.fields.length c9] 143)).drewN k3).heap.size:=by simp
 generalize World.drewN _ k3=w3 at *
 have Hb3:=Aa (Hb2.o.trans (hb3.mono Hb2.o.size))
 have ZX3:=Aa ((hb3.cell (p:=⟨w.heap.size,0,none⟩) hz2).trans ZX2.o)
 clear hb3
 go_wp2_with fail
 refine(HFl.o n w3 hn6 (HW.o.trans (Hb3.o.mono HW.o.size))).mono ?_
 rintro e w4 ⟨rfl,hb4⟩
 have y0':=(hb4.cell (p:=⟨w2.heap.size,0,none⟩) hz3).trans y0
 have Hb4:=Aa (Hb3.o.trans (hb4.mono Hb3.o.size))
 have hz4:=hb4.size
 have zx:=Aa ((hb4.cell (p:=⟨w.heap.size,0,none⟩) (by show w.heap.size<w3.heap.size;omega)).trans ZX3.o)
 have hl4:w2.heap.size<w4.heap.size:=by omega
 clear hb4 HFl y0 y1 y2
 have zx4:w4.cell? ⟨w.heap.size,0,none⟩=some xv:=zx.o
 have Hal:=Aa (fun o=>Hb4.o.alloc Hb4.o.size o)
 have hne:¬(w2.heap.size=w4.heap.size):=by omega
 cases ok with
 |false=>
  have HQ:=Aa (show q=none from HQ.o)
  cases Ap t.fields n with
  |none=>
   unfold sfR sf0
   go_wp2_with fail
   go_ret3
   exact .no HQ.o rfl (Hal.o _)
  |some f=>
   unfold sfR sfV
   go_wp2_with fail
   go_ret3
   exact .no HQ.o rfl (Hal.o _)
 |true=>
  have HQa:=Aa (show q=match Ed r with|none=>none|some (p,z)=>(Ap t.fields n).bind fun f=>(Cg (K f.kind) p).map fun v=>(.mk 85 [] n [v],z)from by rw[HQ.o];rfl)
  clear HQ
  cases hf:Ap t.fields n with
  |none=>
   have HQ2:=Aa (show q=none from by rw[HQa.o,hf];cases Ed r<;>rfl)
   unfold sfR sf0
   clear hf HQa
   go_wp2_with fail
   go_ret3
   exact .no HQ2.o rfl (Hal.o _)
  |some f=>
   have Hf:=Aa hf
   unfold sfR sfV
   clear hf
   obtain⟨w5,hw5⟩:∃w5,w5=w4.alloc (.cells #[.int .i64 (f.tag:Int),.string ⟨f.name.toArray⟩,.string ⟨(Be f.kind).toArray⟩,.string ⟨f.given.toArray⟩] 157):=⟨_,rfl⟩
   go_wp2_with fail
   rw[<-hw5]
   have z2:w5.cell? ⟨w4.heap.size,2,none⟩=some (.string ⟨(Be f.kind).toArray⟩):=by rw[hw5];simp
   have hz5:w4.heap.size<w5.heap.size:=by rw[hw5];simp
   have Hb5:=Aa (show Below w.heap.size w w5 from by rw[hw5];exact Hal.o _)
   have hb45:Below w4.heap.size w4 w5:=by rw[hw5];exact(Aq _ _).alloc (Al _) _
   clear hw5 Hal
   refine(HTk.o w5).mono ?_
   rintro e w6 ⟨rfl,k6,rfl⟩
   have hb6:=below_drewN (Aq w5.heap.size w5) k6
   have Hb6:=Aa (Hb5.o.trans (hb6.mono Hb5.o.size))
   have z2':(w5.drewN k6).cell? ⟨w4.heap.size,2,none⟩=some (.string ⟨(Be f.kind).toArray⟩):=(hb6.cell (p:=⟨w4.heap.size,2,none⟩) hz5).trans z2
   have z0:(w5.drewN k6).cell? ⟨w.heap.size,0,none⟩=some xv:=((hb45.trans (hb6.mono hb45.size)).cell (p:=⟨w.heap.size,0,none⟩) (by show w.heap.size<w4.heap.size;omega)).trans zx4
   have hz6:w4.heap.size<(w5.drewN k6).heap.size:=Nat.lt_of_lt_of_le hz5 hb6.size
   generalize w5.drewN k6=w6 at *
   clear z2 hb6 hb45 HTk
   cases hp:Ed r with
   |none=>
    have HQ2:=Aa (show q=none from by rw[HQa.o,hp])
    unfold tkV
    clear hp
    go_wp2_with fail
    go_ret3
    exact .no HQ2.o rfl Hb6.o
   |some y=>
    obtain⟨p,zz⟩:=y
    have hpl:=Ke hp
    have HQ2:=Aa (show q=(Cg (K f.kind) p).map fun v=>(.mk 85 [] n [v],zz)from by rw[HQa.o,hp];simp only;rw[Hf.o];rfl)
    have HC:=Aa (HWh.o n f Hf.o p w6 (HW.o.trans (Hb6.o.mono HW.o.size)) (by omega))
    unfold tkV
    clear hp
    go_wp2_with fail
    refine HC.o.mono ?_
    rintro e w7 ⟨ho,hb7⟩
    have Hb7:=Aa (Hb6.o.trans (hb7.mono Hb6.o.size))
    have hz7:=hb7.size
    have Hal3:=Aa (fun a b c=>((Hb7.o.alloc Hb7.o.size a).alloc (by simp;exact Nat.le_succ_of_le Hb7.o.size) b).alloc (by simp;have:=Hb7.o.size;omega) c)
    generalize Cg (K f.kind) p=ow at *
    clear hb7 HC z0 z2'
    cases ow with
    |none=>
     obtain⟨qa,rfl⟩:=ho
     go_wp2_with fail
     go_ret3
     exact .no HQ2.o rfl (Hal3.o _ _ _)
    |some v=>
     obtain⟨b,rfl,hv⟩:=ho
     have HV:=Aa (hv.mono (Q:=fun c=>w.heap.size<=c) fun c hc _=>Nat.le_trans Hb6.o.size hc)
     clear hv
     go_wp2_with fail
     go_ret3
     rw[HQ2.o]
     refine⟨⟨w7.heap.size+1+1,rfl,?_⟩,Hal3.o _ _ _⟩
     have htg:=(Ay Hf.o).1
     have hfk:V0 (Af xs) k n=f.kind:=by rw[<-htg];exact E5 hft (by rw[htg];exact Hf.o)
     simp only
     rw[Nr,hfk]
     exact HV.o.tagK (kind:=Be k) (text:=[85]) (g:=n) fun c hc=>Nat.le_trans Hb7.o.size hc
theorem Qk7(w0:World)(S:List Ty)(xv:Value)(hxv:xv.oneCell'=true)(k:Kd)(hs0:k.signs=[])(hb:k.base=[64])(s:List UInt8)(hne:s≠[])(d:Nat)(hd1:1<=d)(hd:d<=1000)(w:World)(hw:Below w0.heap.size w0 w)(q:Option (Vl × List UInt8))
  (HT:∀W,Below w0.heap.size w0 W->Calls prog 220 #[.agg #[xv],.string ⟨s.toArray⟩,.string ⟨(Be k).toArray⟩,.int .i64 (d:Int)] W (Bc S k q W)):
  Calls prog 178 #[.agg #[xv],.string ⟨s.toArray⟩,.string ⟨(Be k).toArray⟩,.int .i64 (d:Int)] w (Bc S k q w):=by
 have hkd:Be k=64::(k.name++[59]):=by unfold Be Cj;rw[hs0,hb];rfl
 have e0:(s == [])=false:=by cases s with|nil=>exact absurd rfl hne|cons c r=>rfl
 have e1:¬((d:Int)<1):=by omega
 have HT:=Aa HT
 have HW:=Aa hw
 have HB:=Aa (show Below w.heap.size w (w.alloc (.cells #[xv] 79))from(Aq _ _).alloc (Al _) _)
 rw[hkd]at HT ⊢
 clear hs0 hb hne hkd hw
 go_enter func178,ntmps178
 go_wp2_with fail
 refine(HT.o _ (HW.o.trans (HB.o.mono HW.o.size))).mono ?_
 rintro e w2 ⟨ho,hb2⟩
 have Hb2:=Aa (HB.o.trans (hb2.mono (by simp)))
 clear HT
 cases q with
 |none=>
  obtain⟨qa,ra,rfl⟩:=ho
  clear hb2
  go_wp2_with fail
  go_ret3
  exact .no rfl rfl Hb2.o
 |some y=>
  obtain⟨b,rfl,hv⟩:=ho
  have HV:=Aa (hv.mono (Q:=fun c=>w.heap.size<=c) fun c hc _=>by simp at hc;omega)
  clear hv hb2
  go_wp2_with fail
  go_ret3
  exact⟨⟨b,rfl,HV.o⟩,Hb2.o⟩
theorem Qiy(w0:World)(xs:List (Ty × Value))(xv:Value)(hsc:Gj w0 xv xs)(hok:Kt (Af xs)):∀d:Nat,d<=800->∀k,Cw k->Bu (Af xs) k->SgC w0 (Af xs) xv k d:=by
 obtain⟨A,c,rfl,h1000,_⟩:=hsc
 have hsc:Gj w0 (.slice A xs.length c) xs:=⟨A,c,rfl,h1000,by assumption⟩
 intro d
 induction d with
 |zero=>intro _ k hk hr s w hw hs;exact Qhk _ _ rfl k s 0 w (.inr rfl) (by decide)
 |succ d ih=>
  intro hd k hk hr s w hw hs
  by_cases hne:s=[]
  ·subst hne
   rw[Qnw]
   exact Qhk _ _ rfl k [] (d+1) w (.inl rfl) (by omega)
  have hkl:(Be k).length<=100:=by have:=hk.2.2;omega
  unfold E9
  cases hsg:k.signs with
  |cons c0 sg=>
   simp only
   have hp:=(Jk hk).1
   have hrp:Bu (Af xs) k.part:=hr
   rcases Kl hk hsg with rfl|rfl
   ·rw[if_pos rfl]
    exact Qj0 w0 _ _ rfl k sg hsg hkl d (by omega) s hne w hw hs (ih (by omega) k.part hp hrp) _ (by cases Ag s with|none=>rfl|some y=>obtain⟨n,r⟩:=y;simp only;split;rfl;cases Df (E9 (Af xs) d k.part) n r<;>rfl)
   rw[if_neg (by decide)]
   exact Qkw w0 _ _ rfl k sg hsg hkl d (by omega) s hne w hw hs (ih (by omega) k.part hp hrp) _ (by cases s with|nil=>rfl|cons x r=>simp only;split;rfl;split;cases E9 (Af xs) d k.part r<;>rfl;rfl)
  |nil=>
   simp only
   by_cases h1:k.base=[110]
   ·rw[if_pos h1];exact Qo9 _ _ rfl k hsg h1 s hne (d+1) w (by omega) (by omega) (by omega) _ rfl
   rw[if_neg h1]
   by_cases h2:k.base=[116]
   ·rw[if_pos h2];exact Qpg _ _ rfl k hsg h2 s hne (d+1) w (by omega) (by omega) (by omega) _ rfl
   rw[if_neg h2]
   by_cases h3:k.base=[102]
   ·rw[if_pos h3];exact Qo7 _ _ rfl k hsg h3 s hne (d+1) w (by omega) (by omega) (by omega) _ (by cases s<;>rfl)
   rw[if_neg h3]
   have h64:k.base=[64]:=by
    rcases hk.2.1 with h|⟨h|h|h,_⟩
    ·exact h.1
    ·exact absurd h h1
    ·exact absurd h h2
    exact absurd h h3
   have hr2:=hr h64
   rw[Jq]at hr2
   cases hx:D9 xs k.name with
   |none=>rw[hx]at hr2;cases hr2
   |some x=>
    obtain⟨t,tv⟩:=x
    obtain⟨hm,_,hft⟩:=Cl hx
    have htS:t∈Af xs:=(Bj hft).1
    have hty:=hok.1.1 t htS
    rw[hft]
    simp only
    refine Qk7 w0 _ _ rfl k hsg h64 s hne (d+1) (by omega) (by omega) w hw _ fun W hW=>?_
    by_cases h9:t.sort=69
    ·exact Qkf w0 xs _ rfl hsc k hk hsg h64 t tv hx h9 s hs _ W hW _ (Qdy h9)
    have hkd:∀n f,Ap t.fields n=some f->Cw f.kind/\Bu (Af xs) f.kind:=fun n f hf=>⟨((hty.2.2.1.1 f (Ay hf).2).2.2.2.2 h9).1,hok.2.1 t htS h9 f (Ay hf).2⟩
    by_cases h5:t.sort=85
    ·exact Qkz w0 xs _ rfl hsc k hk hsg h64 t tv hx h5 s hs _ (d:Int) (by omega) (by omega) (by omega) (E9 (Af xs) d) (fun n f hf p W hW hp=>Se w0 _ _ rfl f.kind d (ih (by omega) f.kind (hkd n f hf).1 (hkd n f hf).2) p W hW hp _ rfl) W hW _ (Qe8 (by rw[h5];decide) h9)
    have h82:t.sort=82:=by
     rcases hty.1 with h|h|h
     ·exact h
     ·exact absurd h h5
     exact absurd h h9
    have hfs:D8 w0 tv t.fields:=by obtain⟨_,_,_,_,_,hf⟩:=hsc;exact hf _ hm
    refine Qkx w0 xs _ rfl hsc k hk hsg h64 t tv hx h82 s _ W hW _ fun W hW=>?_
    have hR:=Qnx w0 xs A c hsc hok k t tv hx h82 d fun k' h1 h2=>ih (by omega) k' h1 h2
    obtain⟨A9,c9,rfl,_⟩:=hfs
    have:=Qe0 w0 _ rfl (Af xs) k hkl (E9 (Af xs) d) t.name A9 c9 t.fields d (by omega) hR s W hW hs _ rfl
    have e:Sv (Af xs) (E9 (Af xs) d) t s=(Dc (Af xs) (E9 (Af xs) d) t.fields 1000 0 s).map fun y=>(.mk 82 [] 0 (y.1.map Ea),y.2):=by unfold Sv;rw[if_pos h82];cases Dc (Af xs) (E9 (Af xs) d) t.fields 1000 0 s<;>rfl
    rw[e]
    exact this
def Nd(s d x:List UInt8)(w:World)(e:Ending)(w':World):Prop:=Below w w w'/\match Bq s d with
 |none=>∃v q,e=.returned (.tuple #[v,.pointer q,.bool false])
 |some y=>match Jv y.1 y.2 x with
  |none=>∃v q,e=.returned (.tuple #[v,.pointer q,.bool false])
  |some v=>∃xv xs b,e=.returned (.tuple #[xv,.pointer (some ⟨b,0,none⟩),.bool true])/\Af xs=y.1/\Gj w' xv xs/\En (fun c=>w.heap.size<=c) w' b (Bt y.1 y.2 v)
def Pr(c:UInt8):Bool:=c != 39
def Ny(s:List UInt8):Nat:=min (((s.drop 1).takeWhile Pr).length+2) s.length
theorem Qml(r:List UInt8):(r.takeWhile Pr=r/\∀x∈r,x≠39)\/∃q,r=r.takeWhile Pr++39::q:=by
 induction r with
 |nil=>exact .inl ⟨rfl,by simp⟩
 |cons x r ih=>
  by_cases hx:Pr x=true
  ·rw[List.takeWhile_cons_of_pos hx];rcases ih with⟨h1,h2⟩|⟨q,h⟩
   ·refine .inl ⟨by rw[h1],fun y hy=>?_⟩;rcases aB.1 hy with rfl|hy
    ·simpa [Pr]using hx
    exact h2 y hy
   exact .inr ⟨q,by rw[aw,<-h]⟩
  rw[List.takeWhile_cons_of_neg hx];have:x=39:=by simpa [Pr]using hx
  subst this;exact .inr ⟨r,rfl⟩
theorem Qpe(c:UInt8)(r:List UInt8):(Fq ((c::r).take (Ny (c::r)))=false/\Nq (c::r)=none) \/
  ∃x q,Nq (c::r)=some (x,q)/\Fq ((c::r).take (Ny (c::r)))=true/\(c::r).take (Ny (c::r))=39::(x++[39])/\(c::r).drop (Ny (c::r))=q:=by
 rcases Qml r with⟨h1,h2⟩|⟨q,h⟩
 ·left;have e:Ny (c::r)=(c::r).length:=by unfold Ny;rw[show (c::r).drop 1=r from rfl,h1];simp
  rw[e,List.take_length];have hd:As 39 (r.dropWhile Cn)=none:=by
   cases hc:r.dropWhile Cn with
   |nil=>rfl
   |cons x z=>
    have hx:x∈r:=(List.dropWhile_sublist _).subset (by rw[hc];simp);simp[As,h2 x hx]
  constructor
  ·unfold Fq;by_cases h0:r=[]
   ·subst h0;simp
   have hl:(c::r).getLast?=some (r.getLast h0):=by rw[List.getLast?_cons,List.getLast?_eq_some_getLast h0];rfl
   have:=h2 _ (List.getLast_mem h0);rw[hl];simp[this]
  unfold Nq;by_cases hc:c=39
  ·subst hc;rw[show As 39 (39::r)=some r by simp[As]];simp only;rw[hd]
  simp[As,hc]
 generalize htw:r.takeWhile Pr=tw at *;have hno:∀x∈tw,Pr x=true:=fun x hx=>by rw[<-htw]at hx;exact(List.all_eq_true.1 (List.all_takeWhile)) x hx
 have e:Ny (c::r)=tw.length+2:=by
  unfold Ny;rw[show (c::r).drop 1=r from rfl,htw];have:(c::r).length=tw.length+1+q.length+1:=by rw[h];simp;omega
  omega
 have et:(c::r).take (tw.length+2)=c::(tw++[39]):=by
  rw[List.take_succ_cons,h,List.take_append,av aI];simp
 have ed:(c::r).drop (tw.length+2)=q:=by
  rw[List.drop_succ_cons,h,List.drop_append,List.drop_of_length_le aI];simp
 have eq:Fq (c::(tw++[39]))=(decide (c=39) && Da tw):=by
  unfold Fq;have hl:(c::(tw++[39])).getLast?=some 39:=by rw[<-aw,List.getLast?_append];rfl
  rw[hl];simp
 rw[e,et,ed,eq];by_cases hc:c=39
 ·subst hc;by_cases hall:tw.all Cn=true
  ·have ha:=List.all_eq_true.1 hall;have t1:r.takeWhile Cn=tw:=by rw[h,List.takeWhile_append_of_pos ha];simp[Cn,Jx,Bh]
   have t2:r.dropWhile Cn=39::q:=by rw[h,List.dropWhile_append_of_pos ha];simp[Cn,Jx,Bh]
   by_cases h12:tw.length<=12
   ·right;exact⟨tw,q,by simp[Nq,As,t1,t2,h12],by simp[Da,h12,hall],rfl,rfl⟩
   left;exact⟨by simp[Da,h12],by simp[Nq,As,t1,t2,h12]⟩
  left;refine⟨by simp[Da,hall],?_⟩;have:As 39 (r.dropWhile Cn)=none:=by
   rw[h];clear htw h e et ed eq;induction tw with
   |nil=>simp at hall
   |cons x tw ih=>
    by_cases hx:Cn x=true
    ·rw[aw,List.dropWhile_cons_of_pos hx];exact ih (fun y hy=>hno y (by simp[hy])) (by simpa [hx]using hall)
    rw[aw,List.dropWhile_cons_of_neg hx];have:=hno x aK;simp[Pr]at this;simp[As,this]
  unfold Nq;rw[show As 39 (39::r)=some r by simp[As]];simp only;rw[this]
 left;exact⟨by simp[hc],by simp[Nq,As,hc]⟩
theorem Ql7(S:List Ty)(xv:Value)(hxv:xv.oneCell'=true)(s:List UInt8)(k:Kd)(hs0:k.signs=[])(hb:k.base=[116])(w:World)(hs:s.length<=4000000)(hne:s≠[])(q:Option (Vl × List UInt8))(hq:q=match Nq s with|some (x,r)=>some (.mk 116 x 0 [],r)|none=>none):
  Calls prog 104 #[.agg #[xv],s,.string ⟨#[116]⟩] w (Bc S k q w):=by
 have hkd:Be k=[116]:=cj;have HQ:=Aa hq
 have Hor:=Aa (show (Fq (s.take (Ny s))=false/\Nq s=none)\/∃x q,Nq s=some (x,q)/\Fq (s.take (Ny s))=true/\s.take (Ny s)=39::(x++[39])/\s.drop (Ny s)=q by
  cases s with
  |nil=>exact absurd rfl hne
  |cons c r=>exact Qpe c r)
 have hz:1<=s.length:=by cases s with|nil=>exact absurd rfl hne|cons c r=>simp
 have HT:=Aa (fun i (hi:i+1<s.length)=>(show (i<((s.drop 1).takeWhile Pr).length->s[i+1]≠39)/\(i=((s.drop 1).takeWhile Pr).length->s[i+1]=39)from by
  have h:=Qf3 Pr (s.drop 1) i aO;simp only[List.getElem_drop,Nat.add_comm 1 i]at h;exact⟨fun h1=>by simpa [Pr]using h.1 h1,fun h1=>by simpa [Pr]using h.2 h1⟩))
 have hle:((s.drop 1).takeWhile Pr).length+1<=s.length:=by
  have:=(Tl Pr (s.drop 1)).2.2;rw[List.length_drop]at this;omega
 have hqd:Ny s=min (((s.drop 1).takeWhile Pr).length+2) s.length:=rfl;have Hn:=Aa (fun W=>Sh (s.take (Ny s)) W aO);generalize ((s.drop 1).takeWhile Pr).length=m at *;have k1:((Ny s:Nat):Int)<=(s.length:Int):=aI;have Hmin:Hid ((if ((m:Int)+1+1)<=(s.length:Int)then((m:Int)+1+1)else(s.length:Int))=((Ny s:Nat):Int)):=by
  unfold Hid;split<;>omega
 have k3:((Ny s:Nat):Int).toNat=Ny s:=aI;have k2:(0:Int)<=((Ny s:Nat):Int):=aI;generalize Ny s=n at *;generalize hnok:Fq (s.take n)=ok at *;have HI:∃tw dw,tw=s.take n/\dw=s.drop n:=⟨_,_,rfl,rfl⟩
 obtain⟨tw,dw,e1,e2⟩:=HI;rw[<-e1,<-e2]at Hor;rw[<-e1]at Hn hnok;have E1:=Aa e1.symm;have E2:=Aa e2.symm;have Hok:=Aa hnok;clear e1 e2 hs0 hb hq hqd hne hnok;go_enter func104,ntmps104;go_wp2_with fail;go_loop [9] (fun i=>∃j:Nat,i=.int .i64 ((j:Int)+1)/\j<=m) (fun i=>m+1 - (intOf i).toNat)
 case atStart=>exact⟨0,rfl,ag _⟩
 case round=>
  obtain⟨j,rfl,hj⟩:=hrel;by_cases hlt:j+1<s.length
  ·obtain⟨q1,q2⟩:=HT.o j hlt;have hc:=(s[j+1]).toNat_lt;by_cases hjm:j<m
   ·have h3:=q1 hjm;have h4:((s[j+1]).toNat:Int)≠39:=fun h=>h3 (by apply UInt8.toNat_inj.1;simpa using(by exact_mod_cast h:(s[j+1]).toNat=39));clear q1 q2 h3;go_wp2_with fail;go_round
    case rel=>exact⟨j+1,by go_num,by omega⟩
    case measure=>simp[intOf];omega
   have hjm2:j=m:=aI;have h4:((s[j+1]).toNat:Int)=39:=by rw[q2 hjm2];rfl
   clear q1 q2;subst hjm2;clear hjm HT hj hle;have e9:(j:Int)+1+1=(n:Int):=by rw[<-Hmin.o,if_pos aI]
   go_wp2_with fail;refine Xa [55,56,57,58,59,60,61,62,63,64,65,66,67,6,7,8]
    (fun ix v W=>match ix with|0=>v=.string ⟨#[116]⟩|1=>v=(s:List UInt8)|2=>v=(n:Int)|3=>v=.string ⟨(tw:List UInt8).toArray⟩|4=>v=.agg #[.string ⟨#[116]⟩,.string ⟨(tw:List UInt8).toArray⟩,.slice none 0 0,.slice none 0 0]|5=>∃c,v=.pointer (some ⟨c,0,none⟩)|6=>v=(s:List UInt8)|7=>v=(n:Int)|8=>v=.string ⟨(dw:List UInt8).toArray⟩|9=>v=(s:List UInt8)|10=>v=(n:Int)|11=>v=.string ⟨(tw:List UInt8).toArray⟩|12=>v=.bool ok|13=>∃c,v=.pointer (some ⟨c,0,none⟩)|14=>v=.string ⟨(dw:List UInt8).toArray⟩|15=>v=.bool ok|_=>True)
    (fun L U W=>(L 5=false->Below w w W)/\(L 5=true->∃W7,W=W7.alloc (.cells #[.string ⟨#[116]⟩,.string ⟨(tw:List UInt8).toArray⟩,.slice none 0 0,.slice none 0 0] 148)/\Below w w W7/\U 5=.pointer (some ⟨W7.heap.size,0,none⟩))/\(L 13=true->U 13=U 5)) (⟨fun _=>((Aq w.heap.size w).alloc (Al _) _).drew,fun h=>Bool.noConfusion h,fun h=>Bool.noConfusion h⟩) ?_ ?_
   ·exact fS
   rintro L U W hL hφ hR;have hφ10:U 13=U 5:=hR.2.2 (hL 13 aL);have e11:U 14=.string ⟨(dw:List UInt8).toArray⟩:=hφ 14 aL;have e12:U 15=.bool ok:=hφ 15 aL;clear hφ;obtain⟨_,h2,h3⟩:=hR;obtain⟨W7,rfl,hb7,u5⟩:=h2 (hL 5 aL);rw[u5]at hφ10;clear hL h2;simp only[hφ10,e11,e12];clear hφ10;go_wp2_with fail;refine aG (v:=.tuple #[.pointer (some ⟨W7.heap.size,0,none⟩),.string ⟨dw.toArray⟩,.bool ok]) (by simp[results,results104,go_sem]) rfl ?_;have hz7:=hb7.size;have Hb7:=(hb7.alloc aI (.cells #[.string ⟨#[116]⟩,.string ⟨tw.toArray⟩,.slice none 0 0,.slice none 0 0] 148))
   have HQ:=HQ.o;rcases Hor.o with⟨o1,o2⟩|⟨x,q',o1,o2,o3,o4⟩
   ·exact ik
   rw[o1]at HQ;subst o2;rw[HQ];subst o4;refine⟨⟨W7.heap.size,rfl,?_⟩,Hb7⟩;exact je
  ·have hjm2:j=m:=aI;subst hjm2;have hj3:(j:Int)<=5000000:=aI;have hj4:(0:Int)<=(j:Int):=aI;have hj5:¬((j:Int)+1+1<=(s.length:Int)):=aI;clear HT hj;have e9:(s.length:Int)=(n:Int):=by rw[<-Hmin.o,if_neg aI]
   go_wp2_with fail;refine Xa [55,56,57,58,59,60,61,62,63,64,65,66,67,6,7,8]
    (fun ix v W=>match ix with|0=>v=.string ⟨#[116]⟩|1=>v=(s:List UInt8)|2=>v=(n:Int)|3=>v=.string ⟨(tw:List UInt8).toArray⟩|4=>v=.agg #[.string ⟨#[116]⟩,.string ⟨(tw:List UInt8).toArray⟩,.slice none 0 0,.slice none 0 0]|5=>∃c,v=.pointer (some ⟨c,0,none⟩)|6=>v=(s:List UInt8)|7=>v=(n:Int)|8=>v=.string ⟨(dw:List UInt8).toArray⟩|9=>v=(s:List UInt8)|10=>v=(n:Int)|11=>v=.string ⟨(tw:List UInt8).toArray⟩|12=>v=.bool ok|13=>∃c,v=.pointer (some ⟨c,0,none⟩)|14=>v=.string ⟨(dw:List UInt8).toArray⟩|15=>v=.bool ok|_=>True)
    (fun L U W=>(L 5=false->Below w w W)/\(L 5=true->∃W7,W=W7.alloc (.cells #[.string ⟨#[116]⟩,.string ⟨(tw:List UInt8).toArray⟩,.slice none 0 0,.slice none 0 0] 148)/\Below w w W7/\U 5=.pointer (some ⟨W7.heap.size,0,none⟩))/\(L 13=true->U 13=U 5)) (⟨fun _=>((Aq w.heap.size w).alloc (Al _) _).drew,fun h=>Bool.noConfusion h,fun h=>Bool.noConfusion h⟩) ?_ ?_
   ·exact fS
   rintro L U W hL hφ hR;have hφ10:U 13=U 5:=hR.2.2 (hL 13 aL);have e11:U 14=.string ⟨(dw:List UInt8).toArray⟩:=hφ 14 aL;have e12:U 15=.bool ok:=hφ 15 aL;clear hφ;obtain⟨_,h2,h3⟩:=hR;obtain⟨W7,rfl,hb7,u5⟩:=h2 (hL 5 aL);rw[u5]at hφ10;clear hL h2;simp only[hφ10,e11,e12];clear hφ10;go_wp2_with fail;refine aG (v:=.tuple #[.pointer (some ⟨W7.heap.size,0,none⟩),.string ⟨dw.toArray⟩,.bool ok]) (by simp[results,results104,go_sem]) rfl ?_;have hz7:=hb7.size;have Hb7:=(hb7.alloc aI (.cells #[.string ⟨#[116]⟩,.string ⟨tw.toArray⟩,.slice none 0 0,.slice none 0 0] 148))
   have HQ:=HQ.o;rcases Hor.o with⟨o1,o2⟩|⟨x,q',o1,o2,o3,o4⟩
   ·exact ik
   rw[o1]at HQ;subst o2;rw[HQ];subst o4;refine⟨⟨W7.heap.size,rfl,?_⟩,Hb7⟩;exact je
theorem Rq:∀(p s:List UInt8),Gk p s=if s.take p.length=p then some (s.drop p.length)else none
 |[],s=>by simp[Gk]
 |c::p,[]=>by simp[Gk,As]
 |c::p,x::s=>by
  have ih:=Rq p s;unfold Gk;by_cases h:x=c
  ·subst h;simp only[As,if_true,List.length_cons,List.take_succ_cons,List.drop_succ_cons,List.cons.injEq,true_and];exact ih
  simp[As,h]
theorem Qka(S:List Ty)(xv:Value)(hxv:xv.oneCell'=true)(s:List UInt8)(k:Kd)(hs0:k.signs=[])(hb:k.base=[102])(w:World)(hs:s.length<=4000000)(q:Option (Vl × List UInt8))(hq:q=match P7 s with|some (b,r)=>some (.mk 102 (if b then Dk else H7) 0 [],r)|none=>none):
  Calls prog 104 #[.agg #[xv],s,.string ⟨#[102]⟩] w (Bc S k q w):=by
 have hkd:Be k=[102]:=cj;have Hq:=Aa hq;have Hy:=Aa (Rq Dk s);have Hn:=Aa (Rq H7 s);clear hq hs0 hb;go_enter func104,ntmps104;go_wp2_with fail;go_loop [70] (fun i=>(i=.int .i64 0)\/(i=.int .i64 1/\¬s.take 3=Dk)\/(i=.int .i64 2/\¬s.take 3=Dk/\¬s.take 2=H7)) (fun i=>3 - (intOf i).toNat)
 case atStart=>exact .inl rfl
 case round=>
  obtain rfl|⟨rfl,hny⟩|⟨rfl,hny,hnn⟩:=hrel
  ·by_cases hl:3<=s.length
   ·have hl2:(3:Int)<=(s.length:Int):=aI;by_cases ht:s.take 3=Dk
    ·have HQ:=@Aa (q=some (.mk 102 Dk 0 [],s.drop 3)) (by rw[Hq.o];unfold P7;rw[Hy.o,if_pos (show s.take Dk.length=Dk from ht)];rfl);generalize hdw:s.drop 3=dw at *;have E2:=Aa hdw;have tb:(s.take 3 == [121,101,115])=true:=by rw[ht];rfl
     clear Hq hdw ht;go_wp2_with fail;have HbW:=Aa (((Aq w.heap.size w).alloc (Al _) (.cells #[xv] 79)).alloc aK (.cells #[.string ⟨#[121,101,115]⟩,.string ⟨#[110,111]⟩] 9));refine Xa [87,88,89,90,91,92,93,94,6,7,8]
      (fun ix v W=>match ix with|0=>v=.string ⟨#[102]⟩|1=>v=.string ⟨#[121,101,115]⟩|2=>v=.agg #[.string ⟨#[102]⟩,.string ⟨#[121,101,115]⟩,.slice none 0 0,.slice none 0 0]|3=>∃c,v=.pointer (some ⟨c,0,none⟩)|4=>v=(s:List UInt8)|5=>v=.string ⟨#[121,101,115]⟩|6=>v=.int .i64 3|7=>v=(dw:List UInt8)|8=>∃c,v=.pointer (some ⟨c,0,none⟩)|9=>v=(dw:List UInt8)|10=>v=.bool true|_=>True)
      (fun L U W=>(L 3=false->Below w w W)/\(L 3=true->∃W7,W=W7.alloc (.cells #[.string ⟨#[102]⟩,.string ⟨#[121,101,115]⟩,.slice none 0 0,.slice none 0 0] 148)/\Below w w W7/\U 3=.pointer (some ⟨W7.heap.size,0,none⟩))/\(L 8=true->U 8=U 3)) (⟨fun _=>HbW.o.drew,fun h=>Bool.noConfusion h,fun h=>Bool.noConfusion h⟩) ?_ ?_
     ·exact fW
     rintro L U W hL hφ hR;have hφ10:U 8=U 3:=hR.2.2 (hL 8 aL);have e11:U 9=(dw:List UInt8):=hφ 9 aL;have e12:U 10=.bool true:=hφ 10 aL;clear hφ;obtain⟨_,h2,h3⟩:=hR;obtain⟨W7,rfl,hb7,u5⟩:=h2 (hL 3 aL);rw[u5]at hφ10;clear hL h2;simp only[hφ10,e11,e12];clear hφ10;go_wp2_with fail;refine aG (v:=.tuple #[.pointer (some ⟨W7.heap.size,0,none⟩),dw,.bool true]) (by simp[results,results104,go_sem]) rfl ?_;have hz7:=hb7.size;have Hb7:=(hb7.alloc aI (.cells #[.string ⟨#[102]⟩,.string ⟨#[121,101,115]⟩,.slice none 0 0,.slice none 0 0] 148))
     rw[HQ.o];refine⟨⟨W7.heap.size,rfl,?_⟩,Hb7⟩;exact jf
    have tb:(s.take 3 == [121,101,115])=false:=by simpa [Dk,H7]using ht
    go_wp2_with fail;go_round
    case rel=>exact .inr (.inl ⟨rfl,ht⟩)
    case measure=>simp[intOf]
   have hl2:¬((3:Int)<=(s.length:Int)):=aI;have ht:¬s.take 3=Dk:=fun h=>hl ew;go_wp2_with fail;go_round
   case rel=>exact .inr (.inl ⟨rfl,ht⟩)
   case measure=>simp[intOf]
  ·by_cases hl:2<=s.length
   ·have hl2:(2:Int)<=(s.length:Int):=aI;by_cases ht:s.take 2=H7
    ·have HQ:=@Aa (q=some (.mk 102 H7 0 [],s.drop 2)) (by rw[Hq.o];unfold P7;rw[Hy.o,if_neg (show ¬s.take Dk.length=Dk from hny),Hn.o,if_pos (show s.take H7.length=H7 from ht)];rfl);generalize hdw:s.drop 2=dw at *;have E2:=Aa hdw;have tb:(s.take 2 == [110,111])=true:=by rw[ht];rfl
     clear Hq hdw ht;go_wp2_with fail;have HbW:=Aa (((Aq w.heap.size w).alloc (Al _) (.cells #[xv] 79)).alloc aK (.cells #[.string ⟨#[121,101,115]⟩,.string ⟨#[110,111]⟩] 9));refine Xa [87,88,89,90,91,92,93,94,6,7,8]
      (fun ix v W=>match ix with|0=>v=.string ⟨#[102]⟩|1=>v=.string ⟨#[110,111]⟩|2=>v=.agg #[.string ⟨#[102]⟩,.string ⟨#[110,111]⟩,.slice none 0 0,.slice none 0 0]|3=>∃c,v=.pointer (some ⟨c,0,none⟩)|4=>v=(s:List UInt8)|5=>v=.string ⟨#[110,111]⟩|6=>v=.int .i64 2|7=>v=(dw:List UInt8)|8=>∃c,v=.pointer (some ⟨c,0,none⟩)|9=>v=(dw:List UInt8)|10=>v=.bool true|_=>True)
      (fun L U W=>(L 3=false->Below w w W)/\(L 3=true->∃W7,W=W7.alloc (.cells #[.string ⟨#[102]⟩,.string ⟨#[110,111]⟩,.slice none 0 0,.slice none 0 0] 148)/\Below w w W7/\U 3=.pointer (some ⟨W7.heap.size,0,none⟩))/\(L 8=true->U 8=U 3)) (⟨fun _=>HbW.o.drew,fun h=>Bool.noConfusion h,fun h=>Bool.noConfusion h⟩) ?_ ?_
     ·exact fW
     rintro L U W hL hφ hR;have hφ10:U 8=U 3:=hR.2.2 (hL 8 aL);have e11:U 9=(dw:List UInt8):=hφ 9 aL;have e12:U 10=.bool true:=hφ 10 aL;clear hφ;obtain⟨_,h2,h3⟩:=hR;obtain⟨W7,rfl,hb7,u5⟩:=h2 (hL 3 aL);rw[u5]at hφ10;clear hL h2;simp only[hφ10,e11,e12];clear hφ10;go_wp2_with fail;refine aG (v:=.tuple #[.pointer (some ⟨W7.heap.size,0,none⟩),dw,.bool true]) (by simp[results,results104,go_sem]) rfl ?_;have hz7:=hb7.size;have Hb7:=(hb7.alloc aI (.cells #[.string ⟨#[102]⟩,.string ⟨#[110,111]⟩,.slice none 0 0,.slice none 0 0] 148))
     rw[HQ.o];refine⟨⟨W7.heap.size,rfl,?_⟩,Hb7⟩;exact jf
    have tb:(s.take 2 == [110,111])=false:=by simpa [Dk,H7]using ht
    go_wp2_with fail;go_round
    case rel=>exact .inr (.inr ⟨rfl,hny,ht⟩)
    case measure=>simp[intOf]
   have hl2:¬((2:Int)<=(s.length:Int)):=aI;have ht:¬s.take 2=H7:=fun h=>hl ew;go_wp2_with fail;go_round
   case rel=>exact .inr (.inr ⟨rfl,hny,ht⟩)
   case measure=>simp[intOf]
  ·have HQ:=@Aa (q=none) (by rw[Hq.o];simp only[P7,Hy.o,Hn.o,if_neg (show ¬s.take Dk.length=Dk from hny),if_neg (show ¬s.take H7.length=H7 from hnn)]);clear Hq;go_wp2_with fail;refine aG (v:=.tuple #[.pointer none,s,.bool false]) (by simp[results,results104,go_sem]) rfl ?_;exact Bc.no HQ.o rfl (((Aq w.heap.size w).alloc (Al _) _).alloc aK _)
def SrC(w0:World)(S:List Ty)(xv:Value)(k:Kd)(d:Nat):Prop:=∀(s:List UInt8) (W:World),Below w0 w0 W->s.length<=1000000 ->
 Calls prog 105 #[.agg #[xv],s,.string ⟨(Be k).toArray⟩,(d:Int)] W (Bc S k (Am S 20 d k s) W)
def Qit(K:List UInt8->Option (Vl × List UInt8))(s:List UInt8):Option (Vl × List UInt8):=match As 93 s with
 |some z=>some (.mk 91 [] 0 [],z)
 |none=>match De K 20 s with|some (vs,z)=>some (.mk 91 [] 0 vs,z)|none=>none
structure Qqc(w:World)(xv h0 h1:Value)(S:List Ty)(k:Kd)(K:List UInt8->Option (Vl × List UInt8))(s:List UInt8)(wr:World)(v:Value)(xs:List (Nat × SV))(vs:List Vl)(tt:List UInt8):Prop where
 bel:Below w w wr
 st:Eg (w.heap.size+2) (w.heap.size+1) wr h0 h1 (.slice none 0 0) (.slice none 0 0) v v [] xs
 box:wr.cell? (w,0)=some xv
 len:xs.length=vs.length
 eq:xs.map (·.2)=vs.map (Bt S k.part)
 it:De K 20 s=Sk vs (De K (20 - vs.length) tt)
 le:tt.length<=s.length
theorem Qil(w0:World)(S:List Ty)(xv:Value)(hxv:xv.oneCell'=true)(k:Kd)(sg:List UInt8)(hsg:k.signs=91::sg)(hkl:(Be k).length<=100)(d:Nat)(hd:d<=1000)(s:List UInt8)(w:World)(hw:Below w0 w0 w)(hs:s.length<=1000000)
  (H:SrC w0 S xv k.part d) (HG:∀s v r,Am S 20 d k.part s=some (v,r)->s=Aw v++r) (q:Option (Vl × List UInt8)) (hq:q=Qit (Am S 20 d k.part) s):
  Calls prog 159 #[.agg #[xv],.string ⟨s.toArray⟩,.string ⟨(Be k).toArray⟩,.int .i64 ((d+1:Nat):Int)] w (Bc S k q w):=by
 have hkp:Be k=91::Be k.part:=dh;have HQ:=Aa hq;have HH:=Aa H;have HG:=Aa HG;have HW:=Aa hw;have Hsv:=Aa (fun ks=>hkp ▸ P9 S k ks);have hkl2:(Be k.part).length<=100:=by rw[hkp]at hkl;simp at hkl;omega
 rw[hkp];generalize hkk:Be k.part=kp at *;have Hkk:=Aa hkk;have ed:(((d+1:Nat):Int)) - 1=(d:Int):=aI;have ed2:(((d+1:Nat):Int))<=1001:=aI;have ed3:(0:Int)<=(((d+1:Nat):Int)):=aI;generalize (((d+1:Nat):Int))=dd at *;clear H hw hq hkp hkl hkk hsg;by_cases h93:∃z,s=93::z
 ·obtain⟨z,rfl⟩:=h93;go_enter func159,ntmps159;go_wp2_with fail;go_quiet (fail)
  go_wp2_with fail;refine aG (v:=.tuple #[(w,1,0),.string ⟨z.toArray⟩,.bool true]) (by simp[results,results159,go_sem]) rfl ?_;rw[HQ.o,show Qit (Am S 20 d k.part) (93::z)=some (.mk 91 [] 0 [],z)from by simp[Qit,As]];have hl:=En.leaf (P:=fun c=>w.heap.size<=c) (w:=w.alloc (.cells #[xv] 79)) (kind:=91::kp) (text:=[]) (T:=148) aK;refine⟨⟨w.heap.size+1,rfl,?_⟩,below_drewN (((Aq w.heap.size w).alloc (Al _) _).alloc aK _) _⟩;rw[Hsv.o];have hl2:En (fun c=>w.heap.size<=c) ((w.alloc (.cells #[xv] 79)).alloc (.cells #[(91::kp:List UInt8),a6,.slice none 0 0,.slice none 0 0] 148)) (w.heap.size+1) (.mk (91::kp) [] [] []):=eM;exact hl2.after (below_drewN (Aq _ _) _)
 have hne:As 93 s=none:=by
  cases s with
  |nil=>rfl
  |cons c z=>exact Dp (fun e=>h93 ⟨z,by rw[e]⟩) z
 have HQ2:=@Aa (q=match De (Am S 20 d k.part) 20 s with|some (vs,z)=>some (.mk 91 [] 0 vs,z)|none=>none) (by rw[HQ.o];unfold Qit;rw[hne])
 have Hst:=Aa (show Eg (w.heap.size+2) (w.heap.size+1) ((w.alloc (.cells #[xv] 79)).alloc (.cells #[(91::kp:List UInt8),a6,.slice none 0 0,.slice none 0 0] 148)) (91::kp:List UInt8) a6 (.slice none 0 0) (.slice none 0 0) (.slice none 0 0) (.slice none 0 0) [] []from by
  have:=Eg.new (W:=w.alloc (.cells #[xv] 79)) (T:=148) (91::kp:List UInt8) a6;simpa using this)
 have hc0:s≠[]->∀h,((s[0]'h).toNat:Int)≠93:=by
  intro hn h e;cases s with
  |nil=>exact hn rfl
  | cons c z => exact h93 ⟨z, by have:c=93:=by apply UInt8.toNat_inj.1;simpa using(by exact_mod_cast e:c.toNat=93)
                                 rw[this]⟩
 clear h93 hne;obtain⟨W1,hW1⟩:∃W1,W1=(w.alloc (.cells #[xv] 79)).alloc (.cells #[(91::kp:List UInt8),a6,.slice none 0 0,.slice none 0 0] 148):=⟨_,rfl⟩
 have Hb1:=@Aa (Below w w W1) (by rw[hW1];exact((Aq w.heap.size w).alloc (Al _) _).alloc aK _);have Hx1:=@Aa (W1.cell? (w,0)=some xv) (by rw[hW1];go_simp);rw[<-hW1]at Hst;go_enter func159,ntmps159;go_upto_region 2 with fail
 rw[<-hW1];clear hW1;go_cut [1,24]from 18 to 27 (fun s0 bt wx=>s0=.string ⟨s.toArray⟩/\bt=.bool false/\wx=W1)
 case first=>
  by_cases hs0:s=[]
  ·have he:s.isEmpty=true:=by rw[hs0];rfl
   clear hs0 hc0;go_wp2_with fail;go_meet
   exact⟨rfl,rfl,rfl⟩
  ·have he:s.isEmpty=false:=by cases s with|nil=>exact absurd rfl hs0|cons c z=>rfl
   have hs1:0<s.length:=by cases s with|nil=>exact absurd rfl hs0|cons c z=>simp
   have hs2:(((s[0]'hs1).toNat:Int) == 93)=false:=by simpa using hc0 hs0 hs1
   clear hs0 hc0;go_wp2_with fail;go_meet
   exact⟨rfl,rfl,rfl⟩
 case rest=>
  clear hc0;obtain⟨rfl,rfl,rfl⟩:=hcut;have L0:=@Aa (Qqc w xv (91::kp:List UInt8) a6 S k (Am S 20 d k.part) s wc (.slice none 0 0) [] [] s) ⟨Hb1.o,Hst.o,Hx1.o,rfl,rfl,by cases h:De (Am S 20 d k.part) 20 s<;>simp[Sk,h],Al _⟩;clear Hb1 Hst Hx1;go_wp2_with fail;go_loopw [1] (fun s0 wr=>∃(A:Option Addr) (c:Nat) (xs:List (Nat × SV)) (vs:List Vl) (tt:List UInt8),s0=tt/\tt.length<=s.length/\Hid (Qqc w xv (91::kp:List UInt8) a6 S k (Am S 20 d k.part) s wr (.slice A xs.length c) xs vs tt)) (fun s0 _=>Mo s0)
  case atStart=>exact⟨none,0,[],[],s,rfl,Al _,L0.o⟩
  case round=>
   obtain⟨A,c,xs,vs,tt,rfl,htl,HL⟩:=hrel;have c3:=HL.o.st.c3;have c0:=HL.o.box;have hlt:=HL.o.st.lt;by_cases h20:xs.length<20
   ·have t20:decide ((xs.length:Int)<20)=true:=aE aI;have HC:=@Aa (∀W,Below w0 w0 W->Calls prog 105 #[.agg #[xv],tt,kp,(d:Int)] W (Bc S k.part (Am S 20 d k.part tt) W)) (fun W hW=>by have:=HH.o tt W hW aI;rw[Hkk.o]at this;exact this);have HWr:=@Aa (Below w0 w0 wr.drew) ((HW.o.trans (HL.o.bel.mono HW.o.size)).drew);have t20i:(xs.length:Int)<20:=aI;have hx20:xs.length<=19:=aI;have hl0:w.heap.size<wr.heap.size:=aI;have d1:(0:Int)<=(d:Int):=aI;have d2:(d:Int)<=1000:=aI;have hwd:IntKind.i64.wrap (d:Int)=(d:Int):=IntWalk.i64_in _ aI;clear t20 h20;go_wp2_with fail;refine rgT (SrQ wr.drew S k.part (Am S 20 d k.part tt)) 6 7 (fun W vp vr vk h=>h.1) ?_;iterate 3 refine sq ?_
    refine sqS kp ?_;iterate 2 refine sq ?_
    refine sqK (HC.o _ HWr.o) ?_;refine sqM ?_;iterate 3 refine sqP ?_
    iterate 3 refine sqA ?_
    intro l u W hl _ hR;obtain⟨vp,vr,vk,hq5,ua,ub,ue⟩:=RK.fin hR hl aL aL;simp only[Nat.reduceAdd]at ua ub ue;simp only[ua,ub,ue];clear hR hl ua ub ue;obtain⟨hb5,hm⟩:=hq5;have HB5:=@Aa (Below wr wr W) ((Aq _ _).drew.trans hb5);have HS5:=Aa (HL.o.st.after HB5.o);have Hw5:=Aa (HL.o.bel.trans (HB5.o.mono HL.o.bel.size));have Hx5:=@Aa (W.cell? (w,0)=some xv) ((HB5.o.cell (p:=⟨w.heap.size,0,none⟩) (by show w.heap.size<wr.heap.size;omega)).trans c0);have hz5:=hb5.size;have Hit:=@Aa (De (Am S 20 d k.part) 20 s=Sk vs (De (Am S 20 d k.part) (19 - vs.length+1) tt)) (by rw[HL.o.it];congr 2;have:=HL.o.len;omega);clear c3 c0 hb5;cases hk:Am S 20 d k.part tt with
    |none=>
     rw[hk]at hm;obtain⟨⟨q0,rfl⟩,⟨r0,rfl⟩,rfl⟩:=hm;have HN:=@Aa (q=none) (by rw[HQ2.o,Hit.o];unfold De;rw[hk];simp[Sk]);clear hk;go_wp2_with fail;refine aG (v:=.tuple #[.pointer none,tt,.bool false]) (by simp[results,results159,go_sem]) rfl ?_;exact Bc.no HN.o rfl Hw5.o
    |some y=>
     obtain⟨v,r⟩:=y;rw[hk]at hm;obtain⟨⟨b,rfl,hsv⟩,rfl,rfl⟩:=hm;have hrl:r.length<=tt.length:=by rw[HG.o tt v r hk];simp
     have Hsv5:=Aa (show En (fun c1=>w.heap.size+2<=c1/\(Value.slice A xs.length c).ownBlock≠some c1/\(Value.slice none 0 0).ownBlock≠some c1) W b (Bt S k.part v)from by
      refine hsv.mono fun c1 hc _=>⟨ad HL.o.st.bs hc,fun e=>?_,by simp[Value.ownBlock]⟩
      have h1:=(HL.o.st.row.lt c1 e).2;have h2:wr.heap.size<=c1:=hc;omega)
     have HI:=@Aa (De (Am S 20 d k.part) 20 s=Sk vs (match As 44 r with|some q=>(match De (Am S 20 d k.part) (19 - vs.length) q with|some (vs,z)=>some (v::vs,z)|none=>none)|none=>match As 93 r with|some q=>some ([v],q)|none=>none)) (by rw[Hit.o];simp only[De,hk];rfl);clear hk hsv;cases r with
     |nil=>
      have HN:=@Aa (q=none) (by rw[HQ2.o,HI.o];simp[As,Sk]);go_wp2_with fail;refine aG (v:=.tuple #[.pointer none,tt,.bool false]) (by simp[results,results159,go_sem]) rfl ?_;exact Bc.no HN.o rfl Hw5.o
     |cons c9 z=>
      by_cases hcc:c9=44\/c9=93
      ·obtain⟨b4,b9,h4,h9,hbb⟩:∃b4 b9,((c9.toNat:Int) != 44)=b4/\((c9.toNat:Int) == 93)=b9/\((b4=false/\b9=false/\c9=44)\/(b4=true/\b9=true/\c9=93)):=by
        rcases hcc with rfl|rfl
        ·exact⟨false,false,rfl,rfl,.inl ⟨rfl,rfl,rfl⟩⟩
        exact⟨true,true,rfl,rfl,.inr ⟨rfl,rfl,rfl⟩⟩
       have h7:((c9.toNat:Int) != 93)=!b9:=by rw[<-h9];rfl
       have s3:=HS5.o.c3;have s4:=HS5.o.lt;clear hcc;rcases hbb with⟨rfl,rfl,hc9⟩|⟨rfl,rfl,hc9⟩;all_goals
        simp only[Bool.not_true,Bool.not_false]at h7;have HC9:=Aa hc9;clear hc9;go_wp2_with (at_builtin;go_loud (refine Fg _ rfl _ _ 146 rfl (w.heap.size+2) 76 (.pointer none) 8 underlying146 Rt rfl W b rfl rfl (.slice A xs.length c) xs.length (Dr (xs.map (·.1))) rfl rfl HS5.o.row bc aI HS5.o.bs ?_;intro v6 w6 hown6 hg6 hwh6;obtain⟨A6,c6,e6,hS6,hb6⟩:=HS5.o.push (x:=(b,Bt S k.part v)) Hsv5.o hown6 hg6 hwh6;subst e6;have HS6:=Aa hS6;have HB6:=Aa hb6;have p3:=hS6.c3;have f3:=hS6.bk.live 3;have hz6:=hS6.lt;clear hS6 hb6 hown6 hg6 hwh6))
        have hw6:=HB6.o.mono (show w.heap.size<=w.heap.size+2 by omega);have Hbel:=Aa ((Hw5.o.trans hw6).setCell (p:=⟨w.heap.size+1,3,none⟩) (show w.heap.size<=w.heap.size+1 by omega) (.slice A6 (xs++[(b,Bt S k.part v)]).length c6));have Hst7:=Aa HS6.o.set3;have Hbx7:=Aa ((Ai w6 (w.heap.size+1) 3 (.slice A6 (xs++[(b,Bt S k.part v)]).length c6)).cell ((HB6.o.cell (p:=⟨w.heap.size,0,none⟩) (show w.heap.size<w.heap.size+2 by omega)).trans Hx5.o) aK);have Heq7:=@Aa ((xs++[(b,Bt S k.part v)]).map (·.2)=(vs++[v]).map (Bt S k.part)) (by simp[HL.o.eq]);have el:(xs++[(b,Bt S k.part v)]).length=xs.length+1:=aK;rw[el]at Hbel Hst7 Hbx7
       ·have Hit7:=Aa (show De (Am S 20 d k.part) 20 s=Sk (vs++[v]) (De (Am S 20 d k.part) (20 - (vs++[v]).length) z)from by
         rw[HI.o,show 20 - (vs++[v]).length=19 - vs.length by simp,HC9.o,Bp];simp only;cases De (Am S 20 d k.part) (19 - vs.length) z<;>simp[Sk])
        have Hlen7:=@Aa ((xs++[(b,Bt S k.part v)]).length=(vs++[v]).length) (by simp[HL.o.len]);simp only[List.length_cons]at hrl;go_roundw
        case rel=>exact⟨A6,c6,_,vs++[v],z,rfl,by omega,⟨Hbel.o,by rw[el];exact Hst7.o,Hbx7.o,Hlen7.o,Heq7.o,Hit7.o,by omega⟩⟩
        case measure=>simp[Mo,ByteArray.size];omega
       have HY:=@Aa (q=some (.mk 91 [] 0 (vs++[v]),z)) (by rw[HQ2.o,HI.o,HC9.o,Dp aL,Bp];simp[Sk]);refine aG (v:=.tuple #[(w,1,0),.string ⟨z.toArray⟩,.bool true]) (by simp[results,results159,go_sem]) rfl ?_;rw[HY.o];refine⟨⟨w.heap.size+1,rfl,?_⟩,Hbel.o⟩;rw[Hsv.o,<-Heq7.o];have hd:=Hst7.o.done (kind:=91::kp) (text:=[]) aK aO;exact hd.mono fun c1 hc _=>by have:w.heap.size+1<=c1:=hc;show w.heap.size<=c1;omega
      have hc4:c9≠44:=fun e=>hcc (.inl e);have hc9:c9≠93:=fun e=>hcc (.inr e);have HN:=@Aa (q=none) (by rw[HQ2.o,HI.o,Dp hc4,Dp hc9];simp[Sk]);have t44:((c9.toNat:Int) != 44)=true:=by have:=At hc4;simpa using this
      have t93:((c9.toNat:Int) != 93)=true:=by have:=At hc9;simpa using this
      clear hc4 hc9 hcc;go_wp2_with fail;refine aG (v:=.tuple #[.pointer none,tt,.bool false]) (by simp[results,results159,go_sem]) rfl ?_;exact Bc.no HN.o rfl Hw5.o
   ·have t20:decide ((xs.length:Int)<20)=false:=aD aI;go_wp2_with fail;refine aG (v:=.tuple #[.pointer none,tt,.bool false]) (by simp[results,results159,go_sem]) rfl ?_;refine Bc.no ?_ rfl HL.o.bel;have h0:=HL.o.it;rw[show 20 - vs.length=0 by have:=HL.o.len;omega]at h0;rw[HQ2.o,h0];simp[De,Sk]
theorem SrQ.post{S:List Ty}{k:Kd}{o:Option (Vl × List UInt8)}{w w1 w':World}{vp vr vk:Value}(hb:Below w w w1)(h:SrQ w1 S k o w' vp vr vk):Bc S k o w (.returned (.tuple #[vp,vr,vk])) w':=by
 obtain⟨h1,h2⟩:=h;refine⟨?_,hb.trans (h1.mono hb.size)⟩;cases o with
 |none=>obtain⟨⟨q,rfl⟩,⟨r,rfl⟩,rfl⟩:=h2;exact⟨q,r,rfl⟩
 |some x=>obtain⟨⟨b,rfl,hs⟩,rfl,rfl⟩:=h2;exact⟨b,rfl,hs.mono fun c hc _=>ad hb.size hc⟩
theorem Qjq(S:List Ty)(m d:Nat)(k:Kd)(hs0:k.signs=[])(hb:k.base=[110]\/k.base=[116]\/k.base=[102]):Am S m (d+1) k []=none:=by
 unfold Am;rw[hs0];rcases hb with hb|hb|hb<;>rw[hb]<;>rfl
theorem Qes(S:List Ty)(xv:Value)(hxv:xv.oneCell'=true)(k:Kd)(hs0:k.signs=[])(hb:k.base=[110]\/k.base=[116]\/k.base=[102])(d:Nat)(hd:d<=1000)(s:List UInt8)(w:World)(hs:s.length<=1000000):
  Calls prog 105 #[.agg #[xv],s,.string ⟨(Be k).toArray⟩,.int .i64 ((d+1:Nat):Int)] w (Bc S k (Am S 20 (d+1) k s) w):=by
 have HN:=Aa (Qjq S 20 d k hs0 hb);have d1:¬((((d+1:Nat):Int))<1):=aI;have d2:(((d+1:Nat):Int))<=1001:=aI;by_cases hne:s=[]
 ·subst hne;generalize hq:Am S 20 (d+1) k []=q at *
  have hk2:∃kb:List UInt8,kb.length<=20/\Be k=kb:=⟨_,by
   have:Be k=k.base:=by unfold Be Cj;rw[hs0];rcases hb with hb|hb|hb<;>rw[hb]<;>rfl
   rw[this];rcases hb with hb|hb|hb<;>rw[hb]<;>decide,rfl⟩
  obtain⟨kb,hkl,hkb⟩:=hk2;rw[hkb];generalize (((d+1:Nat):Int))=dd at *;clear hq hb hs0 hkb;go_enter func105,ntmps105;go_wp2_with fail;refine aG (v:=.tuple #[.pointer none,a6,.bool false]) (by simp[results,results105,go_sem]) rfl ?_;exact jg
 have he:s.isEmpty=false:=cR;have HP:∀W,Calls prog 104 #[.agg #[xv],s,.string ⟨(Be k).toArray⟩] W (Bc S k (Am S 20 (d+1) k s) W):=by
  intro W;rcases hb with hb|hb|hb
  ·have hk:Be k=[110]:=cj;rw[hk];exact Qj8 S xv hxv s k hs0 hb W aI _ eC
  ·have hk:Be k=[116]:=cj;rw[hk];exact Ql7 S xv hxv s k hs0 hb W aI hne _ eC
  have hk:Be k=[102]:=cj;rw[hk];exact Qka S xv hxv s k hs0 hb W aI _ eC
 have hk2:∃kb:UInt8,(kb=110\/kb=116\/kb=102)/\Be k=[kb]:=by
  rcases hb with hb|hb|hb
  ·exact⟨110,.inl rfl,by unfold Be Cj;rw[hs0,hb];rfl⟩
  ·exact⟨116,.inr (.inl rfl),by unfold Be Cj;rw[hs0,hb];rfl⟩
  exact⟨102,.inr (.inr rfl),by unfold Be Cj;rw[hs0,hb];rfl⟩
 obtain⟨kb,hkl,hkb⟩:=hk2;rw[hkb]at HP ⊢;generalize hq:Am S 20 (d+1) k s=q at *;generalize (((d+1:Nat):Int))=dd at *;have HP:=Aa HP;clear hq hb hs0 hkb hne;rcases hkl with rfl|rfl|rfl<;>
 ·go_enter func105,ntmps105;go_wp2_with fail;refine(HP.o _).mono ?_;rintro e w5 hp;obtain⟨vp,vr,vk,rfl,hq5⟩:=hp.q;have Hq5:=Aa hq5;clear hq5 hp;go_wp2_with fail;refine aG (v:=.tuple #[vp,vr,vk]) (by simp[results,results105,go_sem]) rfl ?_;exact Hq5.o.post ((Aq _ _).alloc (Al _) _)
theorem Yu(K:List UInt8->Option (Vl × List UInt8)):∀(m:Nat) (s:List UInt8) (vs:List Vl) (q:List UInt8),De K m s=some (vs,q)->vs.length<=m
 |0,s,vs,q,h=>by simp[De]at h
 |m+1,s,vs,q,h=>by
  unfold De at h;cases hk:K s with
  |none=>rw[hk]at h;cases h
  |some y=>
   rw[hk]at h;simp only at h;cases h1:As 44 y.2 with
   |some z=>
    rw[h1]at h;simp only at h;cases h2:De K m z with
    |none=>rw[h2]at h;cases h
    |some x=>
     rw[h2]at h;injection h with h;injection h with h _;have:=Yu K m z x.1 x.2 h2;rw[<-h];simp;omega
   |none=>
    rw[h1]at h;simp only at h;cases h2:As 93 y.2 with
    |none=>rw[h2]at h;cases h
    |some z=>rw[h2]at h;injection h with h;injection h with h _;rw[<-h];simp
theorem Qip(K:List UInt8->Option (Vl × List UInt8))(z:List UInt8):Xx K 20 (91::z)=Qit K z:=by
 unfold Xx Qit;rw[Bp];simp only;cases As 93 z with
 |some q=>rfl
 |none=>
  simp only;cases h:De K 20 z with
  |none=>rfl
  |some x=>simp[Yu K 20 z x.1 x.2 h]
theorem Qij(w0:World)(S:List Ty)(xv:Value)(hxv:xv.oneCell'=true)(k:Kd)(sg:List UInt8)(hsg:k.signs=91::sg)(hkl:(Be k).length<=100)(d:Nat)(hd:d<=1000)(s:List UInt8)(w:World)(hw:Below w0 w0 w)(hs:s.length<=1000000)
  (H:SrC w0 S xv k.part d) (HG:∀s v r,Am S 20 d k.part s=some (v,r)->s=Aw v++r):
  Calls prog 105 #[.agg #[xv],.string ⟨s.toArray⟩,.string ⟨(Be k).toArray⟩,.int .i64 ((d+1:Nat):Int)] w (Bc S k (Am S 20 (d+1) k s) w):=by
 have hq:Am S 20 (d+1) k s=Xx (Am S 20 d k.part) 20 s:=by unfold Am;rw[hsg];rfl
 have HN:=@Aa (As 91 s=none->Am S 20 (d+1) k s=none) (fun h=>by rw[hq];unfold Xx;rw[h])
 have HC:=Aa (show ∀z,s=91::z->∀W,Below w0 w0 W->Calls prog 159 #[.agg #[xv],.string ⟨z.toArray⟩,.string ⟨(Be k).toArray⟩,.int .i64 ((d+1:Nat):Int)] W (Bc S k (Am S 20 (d+1) k s) W)from by
  rintro z rfl W hW;exact Qil w0 S xv hxv k sg hsg hkl d hd z W hW fl H HG _ (by rw[hq,Qip]))
 have hkp:Be k=91::Be k.part:=dh;have d1:¬((((d+1:Nat):Int))<1):=aI;have d2:(((d+1:Nat):Int))<=1001:=aI;have HW:=@Aa (Below w0 w0 (w.alloc (.cells #[xv] 79)).drew) ((hw.alloc hw.size _).drew);rw[hkp]at HC hkl ⊢;generalize Be k.part=kp at *;generalize Am S 20 (d+1) k s=q at *;generalize (((d+1:Nat):Int))=dd at *;have hkl2:kp.length<=100:=fj;clear H HG hq hkp hsg hkl hw hd;cases s with
 |nil=>
  have HN:=Aa (HN.o rfl);go_enter func105,ntmps105;go_wp2_with fail;refine aG (v:=.tuple #[.pointer none,a6,.bool false]) (by simp[results,results105,go_sem]) rfl ?_;exact jg
 |cons c z=>
  by_cases hc:c=91
  ·subst hc;have HC:=Aa (fun W=>HC.o z rfl W);go_enter func105,ntmps105;go_wp2_with fail;generalize hwg:World.alloc w _=W1;have p0:W1.cell? (w,0)=some xv:=by rw[<-hwg];simp[go_sem]
   have hl0:w.heap.size<W1.heap.size:=by rw[<-hwg];simp
   have Hb1:=@Aa (Below w w W1) (by rw[<-hwg];exact(Aq _ _).alloc (Al _) _);rw[hwg]at HW;clear hwg;refine rgT (SrQ W1.drew S k q) 5 5 (fun W vp vr vk h=>h.1) ?_;iterate 2 refine sq ?_
   refine sqS (.string ⟨z.toArray⟩) ?_;iterate 2 refine sq ?_
   refine Qqg (HC.o _ HW.o) ?_;iterate 3 refine sqP ?_
   iterate 3 refine sqA ?_
   intro l u W hl _ hR;obtain⟨vp,vr,vk,hq5,ua,ub,ue⟩:=RK.fin hR hl aL aL;simp only[Nat.reduceAdd]at ua ub ue;simp only[ua,ub,ue];clear hR hl ua ub ue;have Hq5:=Aa hq5;clear hq5;go_wp2_with fail;refine aG (v:=.tuple #[vp,vr,vk]) (by simp[results,results105,go_sem]) rfl ?_;exact Hq5.o.post Hb1.o.drew
  have HN:=Aa (HN.o (Dp hc z));have hcn:((c.toNat:Int) != 91)=true:=by have:=At hc;simpa using this
  clear hc;go_enter func105,ntmps105;go_wp2_with fail;refine aG (v:=.tuple #[.pointer none,.string ⟨(c::z:List UInt8).toArray⟩,.bool false]) (by simp[results,results105,go_sem]) rfl ?_;exact jg
theorem Qjj(w0:World)(S:List Ty)(xv:Value)(hxv:xv.oneCell'=true)(k:Kd)(sg:List UInt8)(hsg:k.signs=63::sg)(hkl:(Be k).length<=100)(d:Nat)(hd:d<=1000)(s:List UInt8)(w:World)(hw:Below w0.heap.size w0 w)(hs:s.length<=1000000)
  (H:SrC w0 S xv k.part d):
  Calls prog 105 #[.agg #[xv],.string ⟨s.toArray⟩,.string ⟨(Be k).toArray⟩,.int .i64 ((d+1:Nat):Int)] w (Bc S k (Am S 20 (d+1) k s) w):=by
 have hq:Am S 20 (d+1) k s=Qfg (Am S 20 d k.part) s:=by unfold Am;rw[hsg];rfl
 have HN:=Aa (show As 45 s=none->As 43 s=none->Am S 20 (d+1) k s=none from fun h h2=>by rw[hq];unfold Qfg;rw[h];simp only;rw[h2])
 have HM:=Aa (show ∀z,s=45::z->Am S 20 (d+1) k s=some (.mk 63 [] 0 [],z)from by rintro z rfl;rw[hq];rfl)
 have HP:=Aa (show ∀z,s=43::z->Am S 20 (d+1) k s=match Am S 20 d k.part z with|some (v,q)=>some (.mk 63 [] 0 [v],q)|none=>none from by rintro z rfl;rw[hq];rfl)
 have hkp:Be k=63::Be k.part:=by unfold Be Kd.part;rw[hsg];rfl
 have Hsv:=Aa (fun ks=>hkp ▸ Mg S k ks)
 have HC:=Aa (show ∀z,z.length<=1000000->∀W,Below w0.heap.size w0 W->Calls prog 105 #[.agg #[xv],.string ⟨z.toArray⟩,.string ⟨(Be k.part).toArray⟩,.int .i64 (d:Int)] W (Bc S k.part (Am S 20 d k.part z) W)from fun z hz W hW=>H z W hW hz)
 have d1:¬((((d+1:Nat):Int))<1):=by omega
 have d2:(((d+1:Nat):Int))<=1001:=by omega
 have d3:(((d+1:Nat):Int)) - 1=(d:Int):=by omega
 have d4:(0:Int)<=(d:Int):=by omega
 have d5:(d:Int)<=1000:=by omega
 have hwd:IntKind.i64.wrap (d:Int)=(d:Int):=IntWalk.i64_in _ (by omega)
 have HW:=Aa (show Below w0.heap.size w0 (w.alloc (.cells #[xv] 79)).drew from(hw.alloc hw.size _).drew)
 rw[hkp]at hkl ⊢
 generalize Be k.part=kp at *
 generalize Am S 20 (d+1) k s=q at *
 generalize (((d+1:Nat):Int))=dd at *
 have hkl2:kp.length<=100:=by simp at hkl;omega
 clear H hq hkp hsg hkl hw hd
 cases s with
 |nil=>
  have HN:=Aa (HN.o rfl rfl)
  go_enter func105,ntmps105
  go_wp2_with fail
  refine bodyPost_ret (v:=.tuple #[.pointer none,.string ⟨#[]⟩,.bool false]) (by simp[results,results105,go_sem]) rfl ?_
  exact Bc.no HN.o rfl ((Aq _ _).alloc (Al _) _)
 |cons c z=>
  by_cases hc:c=45
  ·subst hc
   have HM:=Aa (HM.o z rfl)
   go_enter func105,ntmps105
   go_wp2_with fail
   refine Xa [43,44,45,46,47,8,9,10]
    (fun ix v W=>match ix with|0=>v=.string ⟨(63::kp:List UInt8).toArray⟩|1=>v=.agg #[.string ⟨(63::kp:List UInt8).toArray⟩,.string ⟨#[]⟩,.slice none 0 0,.slice none 0 0]|2=>∃c,v=.pointer (some ⟨c,0,none⟩)|3=>v=.string ⟨(45::z:List UInt8).toArray⟩|4=>v=.string ⟨(z:List UInt8).toArray⟩|5=>∃c,v=.pointer (some ⟨c,0,none⟩)|6=>v=.string ⟨(z:List UInt8).toArray⟩|7=>v=.bool true|_=>True)
    (fun L U W=>(L 2=false->Below w.heap.size w W)/\(L 2=true->∃W7,W=W7.alloc (.cells #[.string ⟨(63::kp:List UInt8).toArray⟩,.string ⟨#[]⟩,.slice none 0 0,.slice none 0 0] 148)/\Below w.heap.size w W7/\U 2=.pointer (some ⟨W7.heap.size,0,none⟩))/\(L 5=true->U 5=U 2)) (⟨fun _=>((Aq w.heap.size w).alloc (Al _) _).drew,fun h=>Bool.noConfusion h,fun h=>Bool.noConfusion h⟩) ?_ ?_
   ·repeat (first|exact Bb.nil|(refine Bb.cons ?_ ?_;rotate_left))
    all_goals
     rintro L U W hL hpre HR Hdep K hK
     first|(simp[Region.binds]at hpre;done)|simp[Region.binds]at hpre|clear hpre
    iterate 2
     ·go_simp
      first|exact hK _ _ _ rfl Ae HR.o rfl|exact kF hK HR.o|exact hK undef _ _ Ae Ae HR.o (by simp[Act.put,hpre])|exact hK _ _ _ Ae Ae HR.o rfl|exact kF hK HR.o
    ·obtain⟨R1,R2,R3⟩:=HR.o
     have hB:=R1 hL
     have h10:L 5=false:=Ct Hdep.o 5 2 rfl hL
     go_simp
     exact hK (.pointer (some ⟨W.heap.size,0,none⟩)) _ _ ⟨_,rfl⟩ Ae ⟨fun h=>by simp at h,fun _=>⟨W,rfl,hB,rfl⟩,fun h=>absurd (h10.symm.trans (by simpa using h)) (by decide)⟩ (by simp[Act.put,hpre])
    ·go_simp
     first|exact hK _ _ _ rfl Ae HR.o rfl|exact kF hK HR.o|exact hK undef _ _ Ae Ae HR.o (by simp[Act.put,hpre])|exact hK _ _ _ Ae Ae HR.o rfl|exact kF hK HR.o
    ·go_simp
     rw[if_pos (by omega)]
     go_simp
     exact hK (.string ⟨z.toArray⟩) _ _ rfl Ae HR.o (by simp[Act.put,hpre])
    ·obtain⟨R1,R2,R3⟩:=HR.o
     obtain⟨c,u5⟩:=hpre.1.2
     clear R1 R2 R3
     go_simp
     obtain⟨R1,R2,R3⟩:=HR.o
     exact hK (.pointer (some ⟨c,0,none⟩)) _ _ ⟨c,rfl⟩ Ae ⟨R1,R2,fun _=>u5.symm⟩ (by simp[Act.put,hpre,u5])
    iterate 2
     ·go_simp
      first|exact hK _ _ _ rfl Ae HR.o rfl|exact kF hK HR.o|exact hK undef _ _ Ae Ae HR.o (by simp[Act.put,hpre])|exact hK _ _ _ Ae Ae HR.o rfl|exact kF hK HR.o
   rintro L U W hL hφ hR
   have hφ10:U 5=U 2:=hR.2.2 (hL 5 (by decide))
   have e11:U 6=.string ⟨(z:List UInt8).toArray⟩:=hφ 6 (by decide)
   have e12:U 7=.bool true:=hφ 7 (by decide)
   clear hφ
   obtain⟨_,h2,h3⟩:=hR
   obtain⟨W7,rfl,hb7,u5⟩:=h2 (hL 2 (by decide))
   rw[u5]at hφ10
   clear hL h2
   simp only[hφ10,e11,e12]
   clear hφ10
   go_wp2_with fail
   refine bodyPost_ret (v:=.tuple #[.pointer (some ⟨W7.heap.size,0,none⟩),.string ⟨z.toArray⟩,.bool true]) (by simp[results,results105,go_sem]) rfl ?_
   have hz7:=hb7.size
   have Hb7:=(hb7.alloc (by omega) (.cells #[.string ⟨(63::kp:List UInt8).toArray⟩,.string ⟨#[]⟩,.slice none 0 0,.slice none 0 0] 148))
   rw[HM.o]
   refine⟨⟨W7.heap.size,rfl,?_⟩,Hb7⟩
   rw[Hsv.o]
   exact En.leaf (P:=fun c=>w.heap.size<=c) (kind:=63::kp) (text:=[]) (by omega)
  by_cases hc2:c=43
  ·subst hc2
   have HP:=Aa (HP.o z rfl)
   have HC:=Aa (fun W hW=>HC.o z (by simp at hs;omega) W hW)
   clear hc
   go_enter func105,ntmps105
   go_wp2_with fail
   generalize hwg:World.alloc w _=W1
   have p0:W1.cell? ⟨w.heap.size,0,none⟩=some xv:=by rw[<-hwg];simp[go_sem]
   have hl0:w.heap.size<W1.heap.size:=by rw[<-hwg];simp
   have Hb1:=Aa (show Below w.heap.size w W1 from by rw[<-hwg];exact(Aq _ _).alloc (Al _) _)
   rw[hwg]at HW
   clear hwg
   refine rgT (SrQ W1.drew S k.part (Am S 20 d k.part z)) 7 8 (fun W vp vr vk h=>h.1) ?_
   iterate 2 refine sq ?_
   refine sqS (.string ⟨z.toArray⟩) ?_
   refine sq ?_
   refine sqS (.string ⟨kp.toArray⟩) ?_
   iterate 2 refine sq ?_
   refine sqK (HC.o _ HW.o) ?_
   refine sqM ?_
   iterate 3 refine sqP ?_
   iterate 3 refine sqA ?_
   intro l u W hl _ hR
   obtain⟨vp,vr,vk,hq5,ua,ub,ue⟩:=RK.fin hR hl (by decide) (by decide)
   simp only[Nat.reduceAdd]at ua ub ue
   simp only[ua,ub,ue]
   clear hR hl ua ub ue
   obtain⟨hb5,hm⟩:=hq5
   have hz1:=Hb1.o.size
   have Hb5:=Aa (show Below w.heap.size w W from Hb1.o.drew.trans (hb5.mono (by simpa using hz1)))
   have hz5:=Hb5.o.size
   generalize Am S 20 d k.part z=o at *
   have HP:=HP
   cases o with
   |none=>
    have HN:=Aa (HP.o)
    obtain⟨⟨q0,rfl⟩,⟨r0,rfl⟩,rfl⟩:=hm
    clear hb5 HP
    go_wp2_with fail
    refine bodyPost_ret (v:=.tuple #[.pointer (some ⟨W.heap.size+1,0,none⟩),.string r0,.bool false]) (by simp[results,results105,go_sem]) rfl ?_
    exact Bc.no HN.o rfl ((Hb5.o.alloc Hb5.o.size _).alloc (by simp;omega) _)
   |some y=>
    obtain⟨v,r⟩:=y
    obtain⟨⟨b,rfl,hsv⟩,rfl,rfl⟩:=hm
    have HY:=Aa (show q=some (.mk 63 [] 0 [v],r)from HP.o)
    have Hsv5:=Aa (hsv.mono (Q:=fun c=>w.heap.size<=c) fun c1 hc _=>Nat.le_trans (by simpa using hz1) hc)
    clear hb5 HP hsv
    go_wp2_with fail
    refine bodyPost_ret (v:=.tuple #[.pointer (some ⟨W.heap.size+1,0,none⟩),.string ⟨r.toArray⟩,.bool true]) (by simp[results,results105,go_sem]) rfl ?_
    rw[HY.o]
    refine⟨⟨W.heap.size+1,rfl,?_⟩,((Hb5.o.alloc Hb5.o.size _).alloc (by simp;omega) _)⟩
    rw[Hsv.o]
    refine .mk (63::kp) [] [] none (some ⟨W.heap.size,0,none⟩) 0 1 [(b,Bt S k.part v)] rfl (by simp) (by show w.heap.size<=W.heap.size+1;omega) (by go_simp) (by go_simp) (by go_simp) (by go_simp) ⟨rfl,Nat.zero_le _,fun h=>absurd h (by simp)⟩ ⟨rfl,by simp[maxLen],fun _=>⟨W.heap.size,0,rfl,by simp;omega,fun j u hu=>?_⟩⟩ (by simp) (by simp) (fun _ _ h=>absurd h (by simp)) (fun g o _ e=>?_) (fun x hx=>?_)
    ·match j,hu with
     |0,hu=>
      simp[Dr]at hu
      subst hu
      go_simp
     |j+1,hu=>simp[Dr]at hu
    ·injection e with e;injection e with e;subst e;exact hz5
    simp at hx
    subst hx
    exact Hsv5.o.after (((Aq _ _).alloc (Al _) _).alloc (by simp) _)
  have HN:=Aa (HN.o (Dp hc z) (Dp hc2 z))
  have hcn:((c.toNat:Int) == 45)=false:=by have:=At hc;simpa using this
  have hcn2:((c.toNat:Int) != 43)=true:=by have:=At hc2;simpa using this
  clear hc hc2
  go_enter func105,ntmps105
  go_wp2_with fail
  refine bodyPost_ret (v:=.tuple #[.pointer none,.string ⟨(c::z:List UInt8).toArray⟩,.bool false]) (by simp[results,results105,go_sem]) rfl ?_
  exact Bc.no HN.o rfl ((Aq _ _).alloc (Al _) _)
theorem Qaw(S:List Ty)(m d:Nat)(k:Kd)(hs0:k.signs=[])(hb:k.base=[64]):Am S m (d+1) k []=none:=by
 unfold Am;rw[hs0,hb];simp only[];rw[if_neg aL,if_neg aL,if_neg aL];cases B9 S k.name with
 |none=>rfl
 |some t=>simp[Kp,As]
theorem Qii(w0:World)(S:List Ty)(xv:Value)(hxv:xv.oneCell'=true)(k:Kd)(hs0:k.signs=[])(hb:k.base=[64])(hkl:k.name.length<=100)(d:Nat)(hd:d<=1000)(s:List UInt8)(w:World)(hw:Below w0 w0 w)(hs:s.length<=1000000)
  (H:∀W,Below w0 w0 W->s≠[]->Calls prog 160 #[.agg #[xv],s,.string ⟨(Be k).toArray⟩,.int .i64 ((d+1:Nat):Int)] W (Bc S k (Am S 20 (d+1) k s) W)):
  Calls prog 105 #[.agg #[xv],s,.string ⟨(Be k).toArray⟩,.int .i64 ((d+1:Nat):Int)] w (Bc S k (Am S 20 (d+1) k s) w):=by
 have HN:=Aa (Qaw S 20 d k hs0 hb);have hkb:Be k=64::(k.name++[59]):=cj;have d1:¬((((d+1:Nat):Int))<1):=aI;have d2:(((d+1:Nat):Int))<=1001:=aI;have HW:=@Aa (Below w0 w0 (w.alloc (.cells #[xv] 79))) (hw.alloc hw.size _);have HH:=Aa H;rw[hkb]at HH ⊢;generalize hnm:k.name++[59]=kn at *;have hkn:kn.length<=101:=by rw[<-hnm];simp;omega
 by_cases hne:s=[]
 ·subst hne;generalize Am S 20 (d+1) k []=q at *;generalize (((d+1:Nat):Int))=dd at *;clear H hb hs0 hkb hnm HH hw;go_enter func105,ntmps105;go_wp2_with fail;refine aG (v:=.tuple #[.pointer none,a6,.bool false]) (by simp[results,results105,go_sem]) rfl ?_;exact jg
 have he:s.isEmpty=false:=cR;have HP:=Aa (fun W hW=>HH.o W hW hne);generalize Am S 20 (d+1) k s=q at *;generalize (((d+1:Nat):Int))=dd at *;clear H hb hs0 hkb hnm hne HH hw;go_enter func105,ntmps105;go_wp2_with fail;refine(HP.o _ HW.o).mono ?_;rintro e w5 hp;obtain⟨vp,vr,vk,rfl,hq5⟩:=hp.q;have Hq5:=Aa hq5;clear hq5 hp;go_wp2_with fail;refine aG (v:=.tuple #[vp,vr,vk]) (by simp[results,results105,go_sem]) rfl ?_;exact Hq5.o.post ((Aq _ _).alloc (Al _) _)
theorem Qgf(S:List Ty)(xv:Value)(hxv:xv.oneCell'=true)(k:Kd)(hkl:(Be k).length<=100)(s:List UInt8)(w:World)(hs:s.length<=1000000):
  Calls prog 105 #[.agg #[xv],s,.string ⟨(Be k).toArray⟩,.int .i64 ((0:Nat):Int)] w (Bc S k (Am S 20 0 k s) w):=by
 have HN:=@Aa (Am S 20 0 k s=none) rfl;generalize Be k=kb at *;generalize Am S 20 0 k s=q at *;by_cases hne:s=[]
 ·subst hne;go_enter func105,ntmps105;go_wp2_with fail;refine aG (v:=.tuple #[.pointer none,a6,.bool false]) (by simp[results,results105,go_sem]) rfl ?_;exact jg
 have he:s.isEmpty=false:=cR;clear hne;go_enter func105,ntmps105;go_wp2_with fail;refine aG (v:=.tuple #[.pointer none,s,.bool false]) (by simp[results,results105,go_sem]) rfl ?_;exact jg
def NmC(w0:World)(S:List Ty)(xv:Value):Prop:=∀d,d<=1000->(∀k,Cw k->SrC w0 S xv k d)->∀k,Cw k->k.signs=[]->k.base=[64]->∀(s:List UInt8),s.length<=1000000->∀W,Below w0 w0 W->s≠[] ->
 Calls prog 160 #[.agg #[xv],s,.string ⟨(Be k).toArray⟩,.int .i64 ((d+1:Nat):Int)] W (Bc S k (Am S 20 (d+1) k s) W)
theorem Qb0(w0:World)(S:List Ty)(hS:∀t∈S,Ek t)(xv:Value)(hxv:xv.oneCell'=true)(HNm:NmC w0 S xv):∀d,d<=1001->∀k,Cw k->SrC w0 S xv k d:=by
 intro d;induction d with
 |zero=>
  intro _ k hk s W hW hs;exact Qgf S xv hxv k bR s W hs
 |succ d ih=>
  intro hd k hk s W hW hs;have ih:=ih aI;have hkl:=hk.2.2;have hp:=(Jk hk).1;obtain⟨h1,h2,h3⟩:=hk;cases hsg:k.signs with
  |cons c sg=>
   rw[hsg]at h1;simp only[List.all_cons,ax,Bi,Bool.or_eq_true,beq_iff_eq]at h1;rcases h1.1 with rfl|rfl
   ·exact Qij w0 S xv hxv k sg hsg aI d aI s W hW hs (ih _ hp) (fun s v r h=>(Gq hS 20 d k.part s v r hp h).2)
   exact Qjj w0 S xv hxv k sg hsg aI d aI s W hW hs (ih _ hp)
  |nil=>
   rcases h2 with⟨hb,hn⟩|⟨hb,_⟩
   ·exact Qii w0 S xv hxv k hsg hb (by have:=hn;rw[Fc]at this;have:=this.2.1;omega) d aI s W hW hs (fun W' hW' hne=>HNm d aI ih k ⟨h1,.inl ⟨hb,hn⟩,h3⟩ hsg hb s hs W' hW' hne)
   exact Qes S xv hxv k hsg (by rcases hb with h|h|h<;>simp[h]) d aI s W hs
end
end Go.Proofs.YtmmhmlmfhpfgbaaGreatDoor
