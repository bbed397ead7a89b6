/- Texts joined. Conditions: as each theorem names them. -/
import Derived.Test.YtpjijpcemejlnaaGreatDoorP05
import Derived.Test.YtpjijpcemejlnaaGreatDoorP08
set_option maxRecDepth 100000
set_option maxHeartbeats 32000000
set_option linter.unusedVariables false
set_option linter.unusedSimpArgs false
namespace Go.Proofs.YtpjijpcemejlnaaGreatDoor
open Go.RowKit Go.Proofs.Tryz
section
attribute [local go_sem] Qhy Qhh Qg3 Qfo ByteArray.mk_append_mk
theorem P8(c:UInt8)(p:List UInt8):∀(l:List (List UInt8)),Aq c (l++[p])=if l.length=0 then p else Aq c l++c::p
 |[]=>rfl
 |[q]=>by simp[Aq]
 |q::r::l=>by
  have ih:=P8 c p (r::l);rw[au,Cj c q aK,ih,Cj c q aK];simp
def Fk(l:List UInt8)(w:World)(e:Ending)(w':World):Prop:=e=.returned l/\Below w w w'
theorem Gc.open_{P:Nat->Prop}{w:World}{b:Nat}{kind text:List UInt8}{tags:List Nat}{kids:List SV}(h:Gc P w b (.mk kind text tags kids)):∃(A1 A2:Option Addr) (c1 c2:Nat) (xs:List (Nat × SV)),b<w.heap.size/\P b/\w.cell? (b,0)=kind/\w.cell? (b,1)=text /\
  w.cell? (b,2)=some (.slice A1 tags.length c1)/\w.cell? (b,3)=some (.slice A2 xs.length c2)/\Bf w A1 tags.length (Eg tags)/\Bf w A2 xs.length (El (xs.map (·.1)))/\tags.length<=1000/\xs.length<=1000/\kids=xs.map (·.2)/\∀x∈xs,Gc P w x.1 x.2:=by
 obtain⟨k,t,g,A1,A2,c1,c2,xs,hv,hb,hP,h0,h1,h2,h3,hr1,hr2,hl1,hl2,_,_,h⟩:=h;injection hv with e1 e2 e3 e4;subst e1 e2 e3 e4;exact⟨A1,A2,c1,c2,xs,hb,hP,h0,h1,h2,h3,hr1,hr2,hl1,hl2,rfl,h⟩
theorem Pg{xs:List (Nat × SV)}{i:Nat}(hi:i<xs.length):(El (xs.map (·.1)))[i]'(by simp[El];exact hi)=.pointer (some ⟨xs[i].1,0,none⟩):=by simp[El]
theorem Sk{l:List Nat}{i:Nat}(hi:i<l.length):(Eg l)[i]'(by simp[Eg];exact hi)=.int .i64 (l[i]:Int):=by simp[Eg]
theorem Ph(P:Nat->Prop)(b:Nat)(c:UInt8)(tx:List UInt8)(w:World)(hc:c=110\/c=116\/c=102)(h:Gc P w b (.mk [c] tx [] [])):Calls prog 50 #[b] w (Fk tx w):=by
 obtain⟨_,_,_,_,_,hb,_,h0,h1,_⟩:=h.open_;have HR:=Aa h1;rcases hc with rfl|rfl|rfl<;>
 ·go_enter func50,ntmps50;go_wp2_with fail;go_ret;exact gH
theorem Qek(P:Nat->Prop)(b:Nat)(kr:List UInt8)(kids:List SV)(ks:List Vl)(w:World)(h:Gc P w b (.mk (91::kr) [] [] kids))(hkr:kr.length<=100)(hl:(Bg (.mk 91 [] 0 ks)).length<=100000000)(hkl:kids.length=ks.length)
  (ih:∀(i:Nat) (hi:i<kids.length) (hi2:i<ks.length) b W,Gc P W b kids[i]->(Bg ks[i]).length<=100000000->Calls prog 50 #[.pointer (some ⟨b,0,none⟩)] W (Fk (Bg ks[i]) W)):
  Calls prog 50 #[.pointer (some ⟨b,0,none⟩)] w (Fk (Bg (.mk 91 [] 0 ks)) w):=by
 obtain⟨A1,A2,c1,c2,xs,hb,_,h0,_,_,h3,_,hr2,_,hxl,rfl,hk⟩:=h.open_;have HF:=Aa (Gs ks);have hjl:(Aq 44 (ks.map Bg)).length<=100000000:=by rw[Gs]at hl;simp at hl;omega
 rw[Bw]at hjl
 have Hjt:=Aa (fun i (hi:i<ks.length)=>(show Df ((ks.take (i+1)).map Bg)<=Df (ks.map Bg)/\(Bg ks[i]).length+1+Df ((ks.take i).map Bg)=Df ((ks.take (i+1)).map Bg)from by
  refine⟨?_,?_⟩
  ·conv=>rhs;rw[<-List.take_append_drop (i+1) ks,ay]
   exact gI
  rw[Be ks i hi,ay];simp[Df];omega))
 have hkl2:xs.length=ks.length:=by simpa using hkl
 have Ih:=Aa ih;have Hr:=Aa hr2;have Hk:=Aa hk;have Hkl:=Aa hkl2;have Hlen:=Aa hjl;have hle:ks.length<=xs.length:=aG;clear hkl hkl2 ih hr2 hk h hl hjl;go_enter func50,ntmps50;go_wp2_with fail;go_loopw [4,3] (fun i s wr=>∃m:Nat,i=.int .i64 m/\m<=xs.length/\s=.string ⟨(91::Aq 44 ((ks.take m).map Bg):List UInt8).toArray⟩/\Hid (Below w w wr)) (fun i _ _=>xs.length - (intOf i).toNat)
 case atStart=>exact⟨0,rfl,ag _,rfl,Au _ _⟩
 case round=>
  obtain⟨m,rfl,hm,rfl,Hbr⟩:=hrel;have m1:(0:Int)<=(m:Int):=aG;have g3:=(Hbr.o.cell (p:=⟨b,3,none⟩) hb).trans h3;have hbw:b<wr.heap.size:=dO;have HJ:=Aa (Bw 44 ((ks.take m).map Bg));by_cases hlt:m<xs.length
  ·have m2:(m:Int)<(xs.length:Int):=aG;have hltk:m<ks.length:=dE;obtain⟨b8,o8,rfl,hb8,hc8⟩:=(Hr.o.below Hbr.o).at_ hlt;rw[Pg hlt]at hc8;have HX:=Aa (fun W (hW:Below w w W)=>Ih.o m (by simpa using hlt) hltk xs[m].1 W dK (by obtain⟨q1,q2⟩:=Hjt.o m hltk;have:=Hlen.o;omega));obtain⟨q1,q2⟩:=Hjt.o m hltk;have hjm:(Aq 44 ((ks.take m).map Bg)).length<=100000000:=by rw[HJ.o];have:=Hlen.o;omega
   have hpm:(Bg ks[m]).length<=100000000:=by have:=Hlen.o;omega
   have HP:=Aa (show Aq 44 ((ks.take (m+1)).map Bg)=if m=0 then Bg ks[m]else Aq 44 ((ks.take m).map Bg)++44::Bg ks[m]from by
    rw[Be ks m hltk,ay,List.map_singleton,P8];have:((ks.take m).map Bg).length=m:=aN;rw[this])
   have HP0:=@Aa (m=0->Aq 44 ((ks.take m).map Bg)=[]) (by rintro rfl;rfl);clear q1 q2;generalize Bg ks[m]=pm at *;generalize Aq 44 ((ks.take m).map Bg)=jm at *;generalize xs[m].1=bm at *;by_cases h0m:m=0
   ·have t0:¬(0<m):=aG;have t1:¬((0:Int)<(m:Int)):=aG;have HP1:=Aa (HP.o.trans (if_pos h0m));have HP2:=Aa (HP0.o h0m);clear h0m HP HP0 HJ;go_wp2_with fail;refine(HX.o _ Hbr.o).mono ?_;rintro e w3 ⟨rfl,hb3⟩;have Hb3:=Aa (Hbr.o.trans (hb3.mono Hbr.o.size));clear hb3;go_wp2_with fail;go_roundw
    case rel=>exact⟨m+1,by go_num,by omega,by rw[HP1.o,HP2.o];rfl,Hb3.o⟩
    case measure=>simp[intOf];omega
   have t0:0<m:=aG;have t1:(0:Int)<(m:Int):=aG;have HP1:=Aa (HP.o.trans (if_neg h0m));clear h0m HP HP0 HJ;go_wp2_with fail;refine(HX.o _ Hbr.o).mono ?_;rintro e w3 ⟨rfl,hb3⟩;have Hb3:=Aa (Hbr.o.trans (hb3.mono Hbr.o.size));clear hb3;go_wp2_with fail;go_roundw
   case rel=>exact⟨m+1,by go_num,by omega,by rw[HP1.o]<;>simp,Hb3.o⟩
   case measure=>simp[intOf];omega
  ·have em:m=ks.length:=dE;have HE:=Aa (show Aq 44 ((ks.take m).map Bg)=Aq 44 (ks.map Bg)by rw[em,List.take_length]);have hjm:(Aq 44 ((ks.take m).map Bg)).length<=100000000:=by rw[HE.o,Bw];exact Hlen.o
   clear em HJ;generalize Aq 44 ((ks.take m).map Bg)=jm at *;go_wp2_with fail;go_ret;exact⟨by rw[HF.o,<-HE.o];rfl,Hbr.o⟩
theorem Yd(P:Nat->Prop)(b:Nat)(kr:List UInt8)(kids:List SV)(o:Option Vl)(w:World)(h:Gc P w b (.mk (63::kr) [] [] kids))(hkr:kr.length<=100)(hl:(Bg (.mk 63 [] 0 o.toList)).length<=100000000)(hkl:kids.length=o.toList.length)
  (ih:∀x,o=some x->∀b W y,y∈kids->Gc P W b y->Calls prog 50 #[.pointer (some ⟨b,0,none⟩)] W (Fk (Bg x) W)):
  Calls prog 50 #[.pointer (some ⟨b,0,none⟩)] w (Fk (Bg (.mk 63 [] 0 o.toList)) w):=by
 obtain⟨A1,A2,c1,c2,xs,hb,_,h0,_,_,h3,_,hr2,_,hxl,rfl,hk⟩:=h.open_;cases o with
 |none=>
  have hx0:xs=[]:=by simpa using hkl
  subst hx0;clear hk hr2 ih h;go_enter func50,ntmps50;go_wp2_with fail;go_ret;exact gH
 |some x=>
  obtain⟨⟨bx,y⟩,rfl⟩:∃a,xs=[a]:=by
   cases xs with
   |nil=>simp at hkl
   |cons a l=>cases l with
    |nil=>exact⟨a,rfl⟩
    |cons b l=>simp at hkl
  have HF:=Aa (show Bg (.mk 63 [] 0 [x])=43::Bg x by simp[Bg,D2,G1,Aq]);have hpl:(Bg x).length<=100000000:=by have:=HF.o;simp only[Option.toList]at hl;rw[this]at hl;simp at hl;omega
  obtain⟨b8,o8,rfl,hb8,hc8⟩:=hr2.at_ (show 0<1 by decide);simp[El]at hc8;have HX:=Aa (ih x rfl bx w y aK (hk (bx,y) aK));simp only[List.length_singleton]at h3;clear hk hr2 ih h hkl;generalize Bg x=px at *;go_enter func50,ntmps50;go_wp2_with fail;refine HX.o.mono ?_;rintro e w3 ⟨rfl,hb3⟩;have Hb3:=Aa hb3;clear hb3;go_wp2_with fail;go_ret;exact⟨by show _=Ending.returned (.string ⟨(Bg (.mk 63 [] 0 [x])).toArray⟩);rw[HF.o];rfl,Hb3.o⟩
theorem Mi{w:World}{base lo n k:Nat}{e:TypeId}{v:Value}{xs:List Value}(h:w.ownsRow base e k v n xs)(hl:lo<=base):w.ownsRow lo e k v n xs:=by
 rcases h with⟨h1,h2|⟨g,cap,cur,h2,h3,h4⟩⟩
 ·exact⟨h1,.inl h2⟩
 exact⟨h1,.inr ⟨g,cap,cur,h2,Nat.le_trans hl h3,h4⟩⟩
structure Gw(vo vo':Value)(w w':World):Prop where
 gr:w.grownBy w' vo.ownBlock
 own:vo'.ownBlock=vo.ownBlock\/∃k,vo'.ownBlock=some k/\w.heap.size<=k
theorem Gw.refl(vo:Value)(w:World):Gw vo vo w w:=⟨World.grownBy.refl _ _,.inl rfl⟩
theorem Gw.trans{v1 v2 v3:Value}{a b c:World}(h:Gw v1 v2 a b)(k:Gw v2 v3 b c):Gw v1 v3 a c:=by
 refine⟨⟨k.gr.os.trans h.gr.os,k.gr.tape.trans h.gr.tape,k.gr.output.trans h.gr.output,Nat.le_trans h.gr.size k.gr.size,fun x hx hne=>(k.gr.block x (Nat.lt_of_lt_of_le hx h.gr.size) ?_).trans (h.gr.block x hx hne)⟩,?_⟩
 ·rcases h.own with e|⟨y,e,hy⟩
  ·rw[e];exact hne
  rw[e];intro he;injection he with he;omega
 rcases k.own with e|⟨y,e,hy⟩
 ·rw[e];exact h.own
 exact .inr ⟨y,e,Nat.le_trans h.gr.size hy⟩
theorem Gw.of{v:Value}{a b:World}(hb:Below a.heap.size a b):Gw v v a b:=⟨⟨hb.os,hb.tape,hb.output,hb.size,fun k hk _=>hb.block k hk⟩,.inl rfl⟩
def Qa6(base:Nat)(ls qs:List (List UInt8))(vo:Value)(w:World)(e:Ending)(w':World):Prop:=∃A c,e=.returned (.slice A (ls++qs).length c)/\w'.ownsRow base 9 1 (.slice A (ls++qs).length c) (ls++qs).length (Ag (ls++qs))/\Gw vo (.slice A (ls++qs).length c) w w'
def Qhe(S:List Ty)(d:Nat):Prop:=∀(k:Kd) (v:Vl),J9 S d k v->Da k->∀(P:Nat->Prop) (b:Nat) (p:List Nat) (w:World) (A:Option Addr) (n c:Nat) (ls:List (List UInt8)) (base:Nat),Gc P w b (Cq S k v)->(∀x,P x->x<w.heap.size->some x≠(Value.slice A n c).ownBlock) ->
 w.ownsRow base 9 1 (.slice A n c) n (Ag ls)->n=ls.length->base<=w.heap.size->(En p).length+10*d<=10000->ls.length+(Co d v).length<=100000 ->
 Calls prog 40 #[.pointer (some ⟨b,0,none⟩),.string ⟨(En p).toArray⟩,.slice A n c] w (Qa6 base ls ((Co d v).map fun q=>En (p++q)) (.slice A n c) w)
theorem Qet{S:List Ty}(hS:∀t∈S,Du t)(d:Nat)(ih:Qhe S d):Qhe S (d+1):=by
 intro k v hv hk P b p w A n c ls base hat hP hown hnl hbase hpl hcnt
 obtain⟨c0,kt,tx,tags,ys,ek,hkt,esv,hys,hl0,hl1,htg,hyl,htx⟩:=Qgv hv hk hS
 rw[esv]at hat
 subst hnl
 have Hat:=Aa hat
 have Hown:=Aa hown
 have HP:=Aa hP
 have hP0:=hP
 have Ih:=Aa ih
 obtain⟨A1,A2,c1,c2,xs,hb,hPb,h0,h1,h2,h3,_,_,_,_,hxy,_⟩:=hat.open_
 have hxl:xs.length=ys.length:=by have:=congrArg List.length hxy;simpa using this.symm
 clear hat hown hP ih
 cases ys with
 |nil=>
  clear hP0
  specialize hl0 rfl
  have hx0:xs.length=0:=hxl
  rw[hx0]at h3
  by_cases hc:c0=91\/c0=64/\tx=[82]
  ·have HE:=Aa (show ls++(Co (d+1) v).map (fun q=>En (p++q))=ls by rw[hl0,if_pos hc];simp)
   clear hl0 hl1
   have fin:Qa6 base ls ((Co (d+1) v).map fun q=>En (p++q)) (.slice A ls.length c) w (.returned (.slice A ls.length c)) w:=by
    unfold Qa6
    rw[HE.o]
    exact⟨A,c,rfl,Hown.o,Gw.refl _ _⟩
   have Fin:=Aa fin
   clear fin
   rcases hc with hc|⟨hc,ht⟩
   ·have t1:((c0.toNat:Int) == 91)=true:=Bj (d:=91) hc
    clear hc
    go_enter func40,ntmps40
    go_wp2_with fail
    go_ret
    exact Fin.o
   have t1:((c0.toNat:Int) == 91)=false:=Ak (d:=91) (by rw[hc];decide)
   have t2:(tx == [82])=true:=by rw[ht];rfl
   have t3:((c0.toNat:Int) == 64)=true:=Bj (d:=64) hc
   clear hc ht
   go_enter func40,ntmps40
   go_wp2_with fail
   go_ret
   exact Fin.o
  have HE:=Aa (show (Co (d+1) v).map (fun q=>En (p++q))=[En p]by rw[hl0,if_neg hc];simp)
  have t1:((c0.toNat:Int) == 91)=false:=Ak (d:=91) (fun e=>hc (.inl e))
  have hlc:ls.length<=100000:=by omega
  clear hl0 hl1 hcnt
  rw[HE.o]
  by_cases ht:tx=[82]
  ·have t2:(tx == [82])=true:=by rw[ht];rfl
   have t3:((c0.toNat:Int) == 64)=false:=Ak (d:=64) (fun e=>hc (.inr ⟨e,ht⟩))
   clear hc ht
   go_enter func40,ntmps40
   go_wp2_with (at_builtin;refine Eh _ rfl _ _ 31 rfl base 9 (.string ⟨#[]⟩) 16 underlying31 Gd rfl w (.string ⟨(En p).toArray⟩) rfl rfl (.slice A ls.length c) ls.length (Ag ls) rfl rfl Hown.o (by unfold maxLen;omega) (by omega) hbase ?_;intro v' w5 hown5 hg5 hwh5;obtain⟨A5,c5,rfl,_⟩:=Bf.own hown5;have Ho:=Aa hown5;have Hg:=Aa hg5;have Hw:=Aa hwh5;clear hown5 hg5 hwh5)
   go_ret
   exact⟨A5,c5,by simp,by simpa [Ag]using Ho.o,by simpa using(⟨Hg.o,Hw.o⟩:Gw _ _ _ _)⟩
  have t2:(tx == [82])=false:=by simpa using ht
  clear hc ht
  go_enter func40,ntmps40
  go_wp2_with (at_builtin;refine Eh _ rfl _ _ 31 rfl base 9 (.string ⟨#[]⟩) 16 underlying31 Gd rfl w (.string ⟨(En p).toArray⟩) rfl rfl (.slice A ls.length c) ls.length (Ag ls) rfl rfl Hown.o (by unfold maxLen;omega) (by omega) hbase ?_;intro v' w5 hown5 hg5 hwh5;obtain⟨A5,c5,rfl,_⟩:=Bf.own hown5;have Ho:=Aa hown5;have Hg:=Aa hg5;have Hw:=Aa hwh5;clear hown5 hg5 hwh5)
  go_ret
  exact⟨A5,c5,by simp,by simpa [Ag]using Ho.o,by simpa using(⟨Hg.o,Hw.o⟩:Gw _ _ _ _)⟩
 |cons y0 yr=>
  obtain⟨hl1,htl⟩:=hl1 (by simp)
  generalize hyy:y0::yr=ys at *
  have hn0:¬(ys.length=0):=by rw[<-hyy];simp
  clear hyy hl0
  have HL:=Aa hl1
  have Hys:=Aa hys
  have Htl:=Aa htl
  have Htg:=Aa htg
  have t0:((xs.length:Int) == 0)=false:=by rw[beq_eq_false_iff_ne];omega
  have Hcnt:=Aa hcnt
  have hxl2:xs.length<=1000:=by omega
  have Hxl:=Aa hxl
  have Hbase:=Aa hbase
  have Hb:=Aa hb
  have HPb:=Aa (hP0 b hPb hb)
  clear hP0 hl1 hys htl htg hcnt hxl hxy hyl htx hv esv hk ek hS hn0 hbase hPb
  go_enter func40,ntmps40
  go_wp2_with fail
  go_loopw [7,2,8] (fun i u x wr=>∃(m:Nat) (A3:Option Addr) (n3 c3:Nat),i=.int .i64 m/\u=.slice A3 n3 c3/\m<=xs.length/\Hid (n3=(ls++(Ct (Co d) (Fp c0 tags) ((ys.map (·.2)).take m)).map fun q=>En (p++q)).length)/\Hid (wr.ownsRow base 9 1 (.slice A3 n3 c3) n3 (Ag (ls++(Ct (Co d) (Fp c0 tags) ((ys.map (·.2)).take m)).map fun q=>En (p++q))))/\Hid (Gw (.slice A ls.length c) (.slice A3 n3 c3) w wr)) (fun i _ _ _=>xs.length - (intOf i).toNat)
  case atStart=>exact⟨0,A,ls.length,c,rfl,rfl,Nat.zero_le _,by show _=_;simp[Ct],by show World.ownsRow _ _ _ _ _ _ _;simpa [Ct]using Hown.o,Gw.refl _ _⟩
  case round=>
   obtain⟨m,A3,n3,c3,rfl,rfl,hm,Hn3,Ho3,Hg3⟩:=hrel
   have m1:(0:Int)<=(m:Int):=by omega
   have hat2:Gc (fun x=>x<w.heap.size/\P x) wr b (.mk (c0::kt) tx tags (ys.map fun y=>Cq S y.1 y.2)):=Hat.o.kept (fun b o u hb hl hu=>Hg3.o.gr.cell hu (HP.o b hb hl)) Hg3.o.gr.size fun x hx hl=>⟨hl,hx⟩
   obtain⟨B1,B2,d1,d2,zs,hbr,_,g0,g1,g2,g3,r1,r2,_,_,hzy,hzk⟩:=hat2.open_
   have hzl:zs.length=xs.length:=by have:=congrArg List.length hzy;have:=Hxl.o;simp at *;omega
   rw[hzl]at g3 r2
   have Hzk:=Aa hzk
   have Hzy:=Aa hzy
   have Hr1:=Aa r1
   have Hr2:=Aa r2
   have Hzl:=Aa hzl
   clear hat2 hzk hzy r1 r2 hzl
   by_cases hlt:m<xs.length
   ·have m2:(m:Int)<(xs.length:Int):=by omega
    have hly:m<ys.length:=by have:=Hxl.o;omega
    have hlz:m<zs.length:=by have:=Hzl.o;omega
    obtain⟨b8,o8,rfl,hb8,hc8⟩:=Hr2.o.at_ hlt
    rw[Pg hlz]at hc8
    obtain⟨hvm,hkm⟩:=Hys.o ys[m] (List.getElem_mem hly)
    have hsm:zs[m].2=Cq S ys[m].1 ys[m].2:=by
     have:=congrArg (fun l:List SV=>l[m]?) Hzy.o
     simpa [hly,hlz]using this.symm
    have hkid:=Hzk.o zs[m] (List.getElem_mem hlz)
    rw[hsm]at hkid
    have hst:Fp c0 tags m<=1000:=by
     unfold Fp
     split
     ·cases hg:tags[m]? with
      |none=>simp[List.getD,hg]
      |some g=>have:=Htg.o g (List.mem_of_getElem? hg);simp[List.getD,hg];omega
     omega
    have Hsn:=Aa (show (ls++(Ct (Co d) (Fp c0 tags) ((ys.map (·.2)).take m)).map fun q=>En (p++q))++(Co d ys[m].2).map (fun q=>En (p++[Fp c0 tags m]++q))=ls++(Ct (Co d) (Fp c0 tags) ((ys.map (·.2)).take (m+1))).map fun q=>En (p++q)by
     rw[Be (ys.map (·.2)) m (by simpa using hly),Fc,List.map_append,List.append_assoc]
     simp[Function.comp_def,Nat.min_eq_left (Nat.le_of_lt hly)])
    have hcm:(ls++(Ct (Co d) (Fp c0 tags) ((ys.map (·.2)).take m)).map fun q=>En (p++q)).length+(Co d ys[m].2).length<=100000:=by
     have h1:=congrArg List.length Hsn.o
     have h2:=Ke (Co d) (Fp c0 tags) (ys.map (·.2)) (m+1)
     have h3:=Hcnt.o
     rw[HL.o]at h3
     simp only[List.length_append,List.length_map]at h1 h2 ⊢
     omega
    have hdl:=C0 3 (Fp c0 tags m) (by have e:10 ^ (3+1)=10000:=rfl;omega)
    have hdm:=C0 3 m (by have e:10 ^ (3+1)=10000:=rfl;omega)
    have hpt:=Ym p (Fp c0 tags m)
    have hpl2:(En (p++[Fp c0 tags m])).length+10*d<=10000:=by
     rw[hpt]
     split
     ·omega
     simp only[List.length_append,List.length_cons];omega
    have HX:=Aa (fun W (hW:Below wr.heap.size wr W)=>Ih.o ys[m].1 ys[m].2 hvm hkm (fun x=>x<w.heap.size/\P x) zs[m].1 (p++[Fp c0 tags m]) W A3 n3 c3 _ base (hkid.after hW) (fun x hx _=>by
     rcases Hg3.o.own with e|⟨k,e,hk⟩
     ·rw[e];exact HP.o x hx.2 hx.1
     rw[e];intro e2;injection e2 with e2;have:=hx.1;omega) (Ax Ho3.o hW) Hn3.o (Nat.le_trans Hbase.o (Nat.le_trans Hg3.o.gr.size hW.size)) hpl2 hcm)
    rw[hpt]at HX
    have Hd:=Aa (fun W=>Fi m m W (Ap _) (by omega))
    have Hd2:=Aa (fun W=>Fi (Fp c0 tags m) (Fp c0 tags m) W (Ap _) (by omega))
    have Hst:=Aa (show Fp c0 tags m=if c0=64 then tags.getD m 0 else m from rfl)
    have hppl:(En p).length<=10000:=by omega
    have Hpn:=Aa (Qbx p)
    clear hpt hpl2 hcm hkid hsm hvm hkm hst
    generalize Fp c0 tags m=st at *
    generalize zs[m].1=bz at *
    generalize ys[m].2=ym at *
    by_cases hc:c0=64
    ·have t64:((c0.toNat:Int) == 64)=true:=Bj (d:=64) hc
     have htl:=Htl.o hc
     have hmt:m<tags.length:=by omega
     obtain⟨b6,o6,rfl,hb6,hc6⟩:=Hr1.o.at_ hmt
     rw[Sk hmt]at hc6
     have hst2:tags[m]=st:=by rw[Hst.o,if_pos hc];simp[List.getD,hmt]
     rw[hst2]at hc6
     have m3:(m:Int)<(tags.length:Int):=by omega
     clear hc hst2 Hst htl
     by_cases hp:p=[]
     ·have e1:En p=[]:=Hpn.o.2 hp
      have t5:(En p).isEmpty=true:=by rw[e1];rfl
      have t6:(!(En p).isEmpty)=false:=by rw[t5];rfl
      rw[if_pos hp]at HX
      clear e1 hp Hpn
      go_wp2_with fail
      refine(Hd.o _).mono ?_
      rintro e w3 ⟨rfl,hb3⟩
      have Hb3:=Aa hb3
      have e2:=(hb3.cell (p:=⟨b,2,none⟩) hbr).trans g2
      have e6:=(hb3.cell (p:=⟨b6,o6+m,none⟩) hb6).trans hc6
      have e0:=(hb3.cell (p:=⟨b,0,none⟩) hbr).trans g0
      have e3:=(hb3.cell (p:=⟨b,3,none⟩) hbr).trans g3
      have e8:=(hb3.cell (p:=⟨b8,o8+m,none⟩) hb8).trans hc8
      have l1:b<w3.heap.size:=Nat.lt_of_lt_of_le hbr hb3.size
      have l2:b8<w3.heap.size:=Nat.lt_of_lt_of_le hb8 hb3.size
      clear hb3
      go_wp2_with fail
      refine(Hd2.o _).mono ?_
      rintro e w4 ⟨rfl,hb4⟩
      have Hb4:=Aa (Hb3.o.trans (hb4.mono Hb3.o.size))
      have q3:=(hb4.cell (p:=⟨b,3,none⟩) l1).trans e3
      have q8:=(hb4.cell (p:=⟨b8,o8+m,none⟩) l2).trans e8
      clear hb4
      go_wp2_with fail
      refine(HX.o _ Hb4.o).mono ?_
      rintro e w5 ⟨A5,c5,rfl,ho5,hg5⟩
      have Ho5:=Aa ho5
      have Hg5:=Aa (Hg3.o.trans ((Gw.of Hb4.o).trans hg5))
      clear ho5 hg5
      rw[Hsn.o]at Ho5 Hg5
      have hln:=congrArg List.length Hsn.o
      go_wp2_with fail
      go_roundw
      case rel=>exact⟨m+1,A5,_,c5,by go_num,by simp only[List.length_append,List.length_map]at hln ⊢;rw[<-hln,Nat.add_assoc],by omega,rfl,Ho5.o,Hg5.o⟩
      case measure=>simp[intOf];omega
     have t5:(En p).isEmpty=false:=by rw[List.isEmpty_eq_false_iff];exact fun e=>hp (Hpn.o.1 e)
     have t6:(!(En p).isEmpty)=true:=by rw[t5];rfl
     rw[if_neg hp]at HX
     clear hp Hpn
     go_wp2_with fail
     refine(Hd.o _).mono ?_
     rintro e w3 ⟨rfl,hb3⟩
     have Hb3:=Aa hb3
     have e2:=(hb3.cell (p:=⟨b,2,none⟩) hbr).trans g2
     have e6:=(hb3.cell (p:=⟨b6,o6+m,none⟩) hb6).trans hc6
     have e0:=(hb3.cell (p:=⟨b,0,none⟩) hbr).trans g0
     have e3:=(hb3.cell (p:=⟨b,3,none⟩) hbr).trans g3
     have e8:=(hb3.cell (p:=⟨b8,o8+m,none⟩) hb8).trans hc8
     have l1:b<w3.heap.size:=Nat.lt_of_lt_of_le hbr hb3.size
     have l2:b8<w3.heap.size:=Nat.lt_of_lt_of_le hb8 hb3.size
     clear hb3
     go_wp2_with fail
     refine(Hd2.o _).mono ?_
     rintro e w4 ⟨rfl,hb4⟩
     have Hb4:=Aa (Hb3.o.trans (hb4.mono Hb3.o.size))
     have q3:=(hb4.cell (p:=⟨b,3,none⟩) l1).trans e3
     have q8:=(hb4.cell (p:=⟨b8,o8+m,none⟩) l2).trans e8
     clear hb4
     go_wp2_with fail
     refine(HX.o _ Hb4.o).mono ?_
     rintro e w5 ⟨A5,c5,rfl,ho5,hg5⟩
     have Ho5:=Aa ho5
     have Hg5:=Aa (Hg3.o.trans ((Gw.of Hb4.o).trans hg5))
     clear ho5 hg5
     rw[Hsn.o]at Ho5 Hg5
     have hln:=congrArg List.length Hsn.o
     go_wp2_with fail
     go_roundw
     case rel=>exact⟨m+1,A5,_,c5,by go_num,by simp only[List.length_append,List.length_map]at hln ⊢;rw[<-hln,Nat.add_assoc],by omega,rfl,Ho5.o,Hg5.o⟩
     case measure=>simp[intOf];omega
    have t64:((c0.toNat:Int) == 64)=false:=Ak (d:=64) hc
    have hst2:m=st:=by rw[Hst.o,if_neg hc]
    subst hst2
    clear hc Hst Hd2
    by_cases hp:p=[]
    ·have e1:En p=[]:=Hpn.o.2 hp
     have t5:(En p).isEmpty=true:=by rw[e1];rfl
     have t6:(!(En p).isEmpty)=false:=by rw[t5];rfl
     rw[if_pos hp]at HX
     clear e1 hp Hpn
     go_wp2_with fail
     refine(Hd.o _).mono ?_
     rintro e w3 ⟨rfl,hb3⟩
     have Hb3:=Aa hb3
     have e0:=(hb3.cell (p:=⟨b,0,none⟩) hbr).trans g0
     have e3:=(hb3.cell (p:=⟨b,3,none⟩) hbr).trans g3
     have e8:=(hb3.cell (p:=⟨b8,o8+m,none⟩) hb8).trans hc8
     have l1:b<w3.heap.size:=Nat.lt_of_lt_of_le hbr hb3.size
     have l2:b8<w3.heap.size:=Nat.lt_of_lt_of_le hb8 hb3.size
     clear hb3
     go_wp2_with fail
     refine(HX.o _ Hb3.o).mono ?_
     rintro e w5 ⟨A5,c5,rfl,ho5,hg5⟩
     have Ho5:=Aa ho5
     have Hg5:=Aa (Hg3.o.trans ((Gw.of Hb3.o).trans hg5))
     clear ho5 hg5
     rw[Hsn.o]at Ho5 Hg5
     have hln:=congrArg List.length Hsn.o
     go_wp2_with fail
     go_roundw
     case rel=>exact⟨m+1,A5,_,c5,by go_num,by simp only[List.length_append,List.length_map]at hln ⊢;rw[<-hln,Nat.add_assoc],by omega,rfl,Ho5.o,Hg5.o⟩
     case measure=>simp[intOf];omega
    have t5:(En p).isEmpty=false:=by rw[List.isEmpty_eq_false_iff];exact fun e=>hp (Hpn.o.1 e)
    have t6:(!(En p).isEmpty)=true:=by rw[t5];rfl
    rw[if_neg hp]at HX
    clear hp Hpn
    go_wp2_with fail
    refine(Hd.o _).mono ?_
    rintro e w3 ⟨rfl,hb3⟩
    have Hb3:=Aa hb3
    have e0:=(hb3.cell (p:=⟨b,0,none⟩) hbr).trans g0
    have e3:=(hb3.cell (p:=⟨b,3,none⟩) hbr).trans g3
    have e8:=(hb3.cell (p:=⟨b8,o8+m,none⟩) hb8).trans hc8
    have l1:b<w3.heap.size:=Nat.lt_of_lt_of_le hbr hb3.size
    have l2:b8<w3.heap.size:=Nat.lt_of_lt_of_le hb8 hb3.size
    clear hb3
    go_wp2_with fail
    refine(HX.o _ Hb3.o).mono ?_
    rintro e w5 ⟨A5,c5,rfl,ho5,hg5⟩
    have Ho5:=Aa ho5
    have Hg5:=Aa (Hg3.o.trans ((Gw.of Hb3.o).trans hg5))
    clear ho5 hg5
    rw[Hsn.o]at Ho5 Hg5
    have hln:=congrArg List.length Hsn.o
    go_wp2_with fail
    go_roundw
    case rel=>exact⟨m+1,A5,_,c5,by go_num,by simp only[List.length_append,List.length_map]at hln ⊢;rw[<-hln,Nat.add_assoc],by omega,rfl,Ho5.o,Hg5.o⟩
    case measure=>simp[intOf];omega
   ·obtain rfl:m=xs.length:=by omega
    have HE:=Aa (show (Co (d+1) v).map (fun q=>En (p++q))=(Ct (Co d) (Fp c0 tags) ((ys.map (·.2)).take xs.length)).map fun q=>En (p++q)by rw[HL.o,List.take_of_length_le (by have:=Hxl.o;simp;omega)])
    go_wp2_with fail
    go_ret
    have hn:=Hn3.o
    have ho:=Ho3.o
    have hg:=Hg3.o
    rw[<-HE.o]at hn ho
    subst hn
    exact⟨A3,c3,rfl,ho,hg⟩
theorem S4(s:List UInt8)(f k:Nat)(hf:f<=k)(hk:k<s.length):(s.drop f).take (k+1 - f)=(s.drop f).take (k - f)++[s[k]]:=by
 have h1:k - f<(s.drop f).length:=aN;rw[show k+1 - f=(k - f)+1 by omega,Be _ _ h1];simp[show f+(k - f)=k by omega]
theorem Yw(s:List UInt8)(f k:Nat)(hf:f<=k)(hk:k<s.length):s.drop f=(s.drop f).take (k - f)++s[k]::s.drop (k+1):=by
 have e1:(s.drop f).drop (k - f)=s[k]::s.drop (k+1):=by
  rw[List.drop_drop,show f+(k - f)=k by omega];exact List.drop_eq_getElem_cons hk
 rw[<-e1,List.take_append_drop]
theorem B9(s:List UInt8)(c:UInt8)(m:Int)(hm:m=(c.toNat:Int))(w:World)(hs:s.length<=4000000):
  Calls prog 80 #[s,.int .u8 m] w fun e w'=>
   ∃v,e=.returned v/\w'.ownsRow w 9 1 v (Ae c s).length (Ag (Ae c s))/\Below w w w':=by
 have Hm:=Aa hm;have Hlen:=Aa (Fw c s);clear hm;go_enter func80,ntmps80;go_wp2_with fail
 go_loopw [5,6,7] (fun v y i wr=>∃(ps:List (List UInt8)) (f k:Nat),i=.int .i64 k/\k<=s.length/\y=.int .i64 f/\f<=k/\ps.length<=k/\Hid (Ae c s=ps++Ae c (s.drop f))/\Hid (c∉(s.drop f).take (k - f)) /\
   Hid (wr.ownsRow w 9 1 v ps.length (Ag ps))/\Hid (Below w w wr)) (fun _ _ i _=>s.length - (intOf i).toNat)
 case atStart=>exact⟨[],0,0,rfl,ag _,rfl,Ap _,by simp,rfl,by simp[Hid],World.ownsRow_lit (base:=w.heap.size) (e:=9) (size:=1) w #[] 0 (Ap _) (ag _) rfl,(Au _ _).alloc (Ap _) _⟩
 case round=>
  obtain⟨ps,f,k,rfl,hk,rfl,hf,hps,hsp,hno,hown,hb⟩:=hrel;by_cases hlt:k<s.length
  ·have hc:=(s[k]).toNat_lt;by_cases he:s[k]=c
   ·have t1:(((s[k]).toNat:Int) == m)=true:=by rw[Hm.o];exact Bj he
    have Hsp:=Aa (show Ae c s=(ps++[(s.drop f).take (k - f)])++Ae c (s.drop (k+1))by
     rw[hsp.o,Yw s f k hf hlt,he,Jp c _ _ hno.o];simp only[List.append_assoc,List.singleton_append];have e2:=Yw s f k hf hlt;rw[he]at e2;rw[<-e2])
    have Hz:=Aa hb.o.size;clear he;have k1:(0:Int)<=(f:Int):=aG;have k2:(f:Int)<=(k:Int):=aG;have k3:(k:Int)<=(s.length:Int):=aG;go_wp2_with (at_builtin;refine M9 _ rfl _ _ 31 rfl w 9 a8 16 underlying31 Gd rfl wr _ rfl rfl _ _ _ rfl rfl hown.o bj aG Hz.o ?_;intro v' w' hown' hb';have Ho:=Aa (show w'.ownsRow w 9 1 v' (ps++[(s.drop f).take (k - f)]).length (Ag (ps++[(s.drop f).take (k - f)]))by rw[M2,ah];exact hown');have Hb:=Aa (hb.o.trans hb');clear hown' hb')
    go_roundw
    case rel=>exact⟨ps++[(s.drop f).take (k - f)],k+1,k+1,by go_num,by omega,by go_num,Ap _,by rw[ah];simp;omega,Hsp.o,by simp[Hid],Ho.o,Hb.o⟩
    case measure=>simp[intOf];omega
   have t1:(((s[k]).toNat:Int) == m)=false:=by rw[Hm.o];exact Ak he
   have Hno:=Aa (show c∉(s.drop f).take (k+1 - f)by
    rw[S4 s f k hf hlt];simp only[af,ap,not_or];exact⟨hno.o,fun h=>he h.symm⟩)
   clear he;go_wp2_with fail;go_roundw
   case rel=>exact⟨ps,f,k+1,by go_num,by omega,rfl,by omega,by omega,hsp.o,Hno.o,hown.o,hb.o⟩
   case measure=>simp[intOf];omega
  ·obtain rfl:k=s.length:=aG
   have Hsp:=Aa (show Ae c s=ps++[s.drop f]by
    have h:=hno.o;rw[ar aK]at h;rw[hsp.o,Ff c _ h])
   have Hz:=Aa hb.o.size;have k1:(0:Int)<=(f:Int):=aG;have k2:(f:Int)<=(s.length:Int):=aG;go_wp2_with (at_builtin;refine M9 _ rfl _ _ 31 rfl w 9 a8 16 underlying31 Gd rfl wr _ rfl rfl _ _ _ rfl rfl hown.o bj aG Hz.o ?_;intro v' w' hown' hb';have Ho:=Aa (show w'.ownsRow w 9 1 v' (ps++[s.drop f]).length (Ag (ps++[s.drop f]))by rw[M2,ah];exact hown');have Hb:=Aa (hb.o.trans hb');clear hown' hb')
   go_ret;refine⟨_,rfl,?_,Hb.o⟩;rw[Hsp.o];exact Ho.o
theorem Tz{b s:List UInt8}(h1:b≠[110])(h2:b≠[116])(h3:b≠[102]):Bs b s=false:=by
 unfold Bs;rw[if_neg h1,if_neg h2,if_neg h3]
theorem Qgu(s:List UInt8):Bs [116] s=(Ev s && !(s == [39,39])):=by
 show (decide (2<s.length) && decide (s.head?=some 39) && decide (s.getLast?=some 39) && De (s.drop 1).dropLast)=((decide (2<=s.length) && decide (s.head?=some 39) && decide (s.getLast?=some 39) && De (s.drop 1).dropLast) && !(s == [39,39]));rcases aF 2 s.length with h|h
 ·have e1:decide (2<s.length)=true:=bg;have e2:decide (2<=s.length)=true:=aN;have e3:(s == [39,39])=false:=by
   rw[beq_eq_false_iff_ne];rintro rfl;simp at h
  rw[e1,e2,e3];simp
 have e1:decide (2<s.length)=false:=aN;rw[e1];match s,h with
 |[],_=>rfl
 |[_],_=>rfl
 |[a,b],_=>
  by_cases ha:a=39
  ·by_cases hb:b=39
   ·subst ha;subst hb;rfl
   simp[hb]
  simp[ha]
theorem Q7(b s:List UInt8)(w:World)(hs:s.length<=4000000):
  Calls prog 189 #[b,s] w fun e w'=>e=.returned (.bool (Bs b s))/\Below w w w':=by
 by_cases h1:b=[110]
 ·subst h1;have Hp:=Aa (fun W=>Cy s 999999 W hs aG);have hf:Bs [110] s=(match Cf s with|some n=>decide (0<n)|none=>false):=rfl;have hv:(Dg s 999999 && (s != [48]))=Bs [110] s:=by
   rw[hf];cases hd:Cf s with
   |none=>rw[Ku hd];rfl
   |some n=>
    obtain⟨h9,e⟩:=Bt.1 hd;rw[H8 hd];have e1:decide (n<=999999)=true:=by simpa using h9
    rw[e1,Bool.true_and];by_cases h0:n=0
    ·subst h0;rw[e,Dy aG];decide
    have hne:s≠[48]:=by
     intro h;rw[e]at h;have:An n=An 0:=by rw[h,Dy (n:=0) aG];decide
     exact h0 (Qei this)
    have e2:(s != [48])=true:=by simpa using hne
    rw[e2];simp;omega
  have Hv:=Aa hv;clear hf hv;go_enter func189,ntmps189;go_wp2_with fail;refine(Hp.o _).mono ?_;rintro e w' ⟨n,hn,rfl,_,hb⟩;have Hb:=Aa hb;clear hb;rcases Bool.eq_false_or_eq_true (Dg s 999999)with ho|ho
  ·have Ho:=Aa ho;rw[ho];clear ho;go_wp2_with fail;exact gP
  have Ho:=Aa ho;rw[ho];clear ho;go_wp2_with fail;exact gP
 by_cases h2:b=[116]
 ·subst h2;have Hp:=Aa (fun W=>Sv s W hs);have Hv:=Aa (Qgu s);clear h1;go_enter func189,ntmps189;go_wp2_with fail;refine(Hp.o _).mono ?_;rintro e w' ⟨rfl,rfl⟩;rcases Bool.eq_false_or_eq_true (Ev s)with ho|ho
  ·have Ho:=Aa ho;rw[ho];clear ho;rcases Bool.eq_false_or_eq_true (s == [39,39])with hq|hq
   ·have Hq:=Aa hq;have hq2:(s != [39,39])=false:=by simp[bne,hq]
    go_wp2_with fail;exact gQ
   have Hq:=Aa hq;have hq2:(s != [39,39])=true:=by simp[bne,hq]
   go_wp2_with fail;exact gQ
  have Ho:=Aa ho;rw[ho];clear ho;go_wp2_with fail;go_ret;exact⟨Dj (Ce (by rw[Hv.o,Ho.o];rfl)),Au _ _⟩
 by_cases h3:b=[102]
 ·subst h3;have Hv:=Aa (show Bs [102] s=(s == [121,101,115])by show decide (s=[121,101,115])=_;by_cases h:s=[121,101,115]<;>simp[h]);clear h1 h2;go_enter func189,ntmps189;go_wp2_with fail;go_ret;exact⟨Dj (Ce Hv.o.symm),Au _ _⟩
 have Hv:=Aa (Tz (s:=s) h1 h2 h3);have q1:(b == [110])=false:=dv;have q2:(b == [116])=false:=dx;have q3:(b == [102])=false:=by simpa using h3
 clear h1 h2 h3;go_enter func189,ntmps189;go_wp2_with fail;go_ret;exact⟨Dj (Ce Hv.o.symm),Au _ _⟩
theorem Tryz.infoInt:(prog.info? 3).map (fun i=>(i.zero,i.size,i.bytes))=some (some (.int .i64 0),1,8):=by kernel_rfl
theorem Ng(w:World)(T:TypeId)(base:Nat)(h:base<=w.heap.size):(w.alloc (.cells #[] T)).ownsRow base T 1 (.slice (some ⟨w.heap.size,0,none⟩) 0 0) 0 []:=
 ⟨rfl,.inr ⟨w.heap.size,0,#[],rfl,h,by have:=heap_alloc_new w (.cells #[] T);simpa using this,Ap _,by decide,rfl,rfl⟩⟩
theorem Qbb(q:List Nat)(w:World)(hq:∀g∈q,g<=1000)(hl:q.length<=1000):
  Calls prog 41 #[.string ⟨(En q).toArray⟩] w fun e w'=>∃v,e=.returned (.tuple #[v,.bool (decide ((q.length:Int)<=8))])/\Below w.heap.size w w':=by
 by_cases h0:q=[]
 ·subst h0
  rw[show En []=[]from rfl]
  go_enter func41,ntmps41
  go_wp2_with fail
  go_ret2
  exact⟨_,rfl,(Au _ _).alloc (Ap _) _⟩
 have hpl:=Qb0 hq
 have HC:=Aa (fun W=>B9 (En q) 47 47 rfl W (by omega))
 rw[Qdf h0]at HC
 have t1:(En q).isEmpty=false:=by rw[List.isEmpty_eq_false_iff];exact fun e=>h0 ((Qbx q).1 e)
 have Hq:=Aa hq
 clear h0 hq hpl
 generalize En q=pt at *
 go_enter func41,ntmps41
 go_wp2_with fail
 obtain⟨w0,hw0⟩:∃w0,w0=w.alloc (.cells #[] 3):=⟨_,rfl⟩
 rw[<-hw0]
 have Hb0:=Aa (show Below w.heap.size w w0 by rw[hw0];exact(Au _ _).alloc (Ap _) _)
 have hz0:w0.heap.size=w.heap.size+1:=by rw[hw0];simp
 have Ho0:=Aa (show w0.ownsRow w.heap.size 3 1 (.slice (some ⟨w.heap.size,0,none⟩) 0 0) 0 []by rw[hw0];exact Ng w _ _ (Ap _))
 clear hw0
 refine(HC.o _).mono ?_
 rintro e w1 ⟨v1,rfl,hown1,hb1⟩
 obtain⟨A1,c1,rfl,hr1⟩:=Bf.own hown1
 simp only[List.length_map]at hr1
 have Hr1:=Aa hr1
 have Hfar:=Aa (show ∀g o,0<q.length->A1=some ⟨g,o,none⟩->some g≠(Value.slice (some ⟨w.heap.size,0,none⟩) 0 0).ownBlock from fun g o _ e he=>by
  have:=(hown1.lt g (by rw[e];rfl)).1
  have he:g=w.heap.size:=by injection he
  omega)
 have Hb1:=Aa (Hb0.o.trans (hb1.mono Hb0.o.size))
 have Ho1:=Aa (Ax Ho0.o hb1)
 clear hown1 hr1 hb1
 go_wp2_with fail
 go_loopw [6,4,7,8] (fun i u x y wr=>∃(m:Nat) (A3:Option Addr) (n3 c3:Nat) (vs:List Value),i=.int .i64 m/\u=.slice A3 n3 c3/\m<=q.length/\n3=m/\Hid (wr.ownsRow w.heap.size 3 1 (.slice A3 n3 c3) n3 vs)/\Hid (Gw (.slice (some ⟨w.heap.size,0,none⟩) 0 0) (.slice A3 n3 c3) w1 wr)) (fun i _ _ _ _=>q.length - (intOf i).toNat)
 case atStart=>exact⟨0,_,0,0,[],rfl,rfl,Nat.zero_le _,rfl,Ho1.o,Gw.refl _ _⟩
 case round=>
  obtain⟨m,A3,n3,c3,vs,rfl,rfl,hm,rfl,Ho3,Hb3⟩:=hrel
  have m1:(0:Int)<=(n3:Int):=by omega
  by_cases hlt:n3<q.length
  ·have m2:(n3:Int)<(q.length:Int):=by omega
   obtain⟨b8,o8,rfl,hb8,hc8⟩:=(Hr1.o.keptP (P:=fun g=>some g≠(Value.slice (some ⟨w.heap.size,0,none⟩) 0 0).ownBlock) Hfar.o (fun b o u hp _ hu=>Hb3.o.gr.cell hu hp) Hb3.o.gr.size).at_ hlt
   rw[show (Ag (q.map An))[n3]'(by rw[Tx];simpa using hlt)=.string ⟨(An q[n3]).toArray⟩from by simp[Ag]]at hc8
   have hg:=Hq.o q[n3] (List.getElem_mem hlt)
   have hdl:=C0 3 q[n3] (by have e:10 ^ (3+1)=10000:=rfl;omega)
   have HN:=Aa (fun W=>Cy (An q[n3]) 999999 W (by omega) (by decide))
   have hno:Dg (An q[n3]) 999999=true:=by rw[H8 (Bt.2 ⟨by omega,rfl⟩)];exact decide_eq_true (by omega)
   unfold T2 at HN
   rw[hno]at HN
   clear hno
   generalize An q[n3]=dq at *
   go_wp2_with fail
   refine(HN.o _).mono ?_
   rintro e w4 ⟨n,hn,rfl,_,hb4⟩
   have Hb4:=Aa (Hb3.o.trans (Gw.of hb4))
   have Ho4:=Aa (Ax Ho3.o hb4)
   have hs4:w.heap.size<=w4.heap.size:=Nat.le_trans Hb1.o.size Hb4.o.gr.size
   clear hb4
   go_wp2_with (at_builtin;refine Eh _ rfl _ _ 57 rfl w.heap.size 3 (.int .i64 0) 8 underlying57 Tryz.infoInt rfl w4 (.int .i64 n) rfl rfl (.slice A3 n3 c3) n3 vs rfl rfl Ho4.o (by unfold maxLen;omega) (by omega) hs4 ?_;intro v' w5 hown5 hg5 hwh5;obtain⟨A5,c5,rfl,_⟩:=Bf.own hown5;have Ho:=Aa hown5;have Hb5:=Aa (Hb4.o.trans ⟨hg5,hwh5⟩);clear hown5 hg5 hwh5)
   go_roundw
   case rel=>exact⟨n3+1,A5,n3+1,c5,_,by go_num,rfl,by omega,rfl,Ho.o,Hb5.o⟩
   case measure=>simp[intOf];omega
  ·obtain rfl:n3=q.length:=by omega
   go_wp2_with fail
   go_ret2
   exact⟨_,rfl,Hb1.o.grown Hb3.o.gr Hb1.o.size fun k hk=>(show w.heap.size=k by injection hk) ▸ Ap _⟩
def C4(s d:List UInt8):Option (List Ty × Kd):=
 match Ca s with
 |none=>none
 |some S=>match Cg d with
  |none=>none
  |some k=>if Cb S k then some (S,k)else none
theorem Z6{s d:List UInt8}{S:List Ty}{k:Kd}(h:C4 s d=some (S,k)):Ca s=some S/\Cg d=some k/\Cb S k:=by
 unfold C4 at h
 cases h1:Ca s with
 |none=>rw[h1]at h;cases h
 |some T=>cases h2:Cg d with
  |none=>rw[h1,h2]at h;cases h
  |some q=>
   rw[h1,h2]at h
   simp only at h
   split at h
   ·rename_i hr
    simp only[Option.some.injEq,Prod.mk.injEq]at h
    obtain⟨rfl,rfl⟩:=h
    exact⟨rfl,rfl,hr⟩
   cases h
theorem Pd{s d:List UInt8}{S:List Ty}{k:Kd}(h:C4 s d=some (S,k)):Pz S/\s.length<=400/\scB S=s/\Da k/\Bp k=d/\Cb S k:=by
 obtain⟨h1,h2,h3⟩:=Z6 h
 obtain⟨a1,a2,a3⟩:=Pl.1 h1
 obtain⟨b1,b2⟩:=D7.1 h2
 exact⟨a1,a2,a3,b1,b2,h3⟩
def Mh(s d x:List UInt8)(w:World)(e:Ending)(w':World):Prop:=Below w.heap.size w w'/\match C4 s d with
 |none=>∃v q,e=.returned (.tuple #[v,.pointer q,.bool false])
 |some y=>match Kk y.1 y.2 x with
  |none=>∃v q,e=.returned (.tuple #[v,.pointer q,.bool false])
  |some v=>∃xv xs b,e=.returned (.tuple #[xv,.pointer (some ⟨b,0,none⟩),.bool true])/\Al xs=y.1/\Mj w' xv xs/\Gc (fun c=>w.heap.size<=c) w' b (Cq y.1 y.2 v)
end
end Go.Proofs.YtpjijpcemejlnaaGreatDoor
