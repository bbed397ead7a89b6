/- Texts joined. Conditions: as each theorem names them. -/
import Derived.Test.YtkigmebejmmikaaGreatDoorQ03
import Derived.Test.YtkigmebejmmikaaGreatDoorQ05
import Derived.Test.YtkigmebejmmikaaGreatDoorQ06
import Derived.Test.YtkigmebejmmikaaGreatDoorQ07
set_option maxRecDepth 100000
set_option maxHeartbeats 32000000
set_option linter.unusedVariables false
set_option linter.unusedSimpArgs false
namespace Go.Proofs.YtkigmebejmmikaaGreatDoor
open Go.RowKit Go.Proofs.Tryz
section
attribute [local go_sem] Qja Qit Qib Qgw ByteArray.mk_append_mk
theorem Q8(c:UInt8)(p:List UInt8):∀(l:List (List UInt8)),Ak c (l++[p])=if l.length=0 then p else Ak c l++c::p
 |[]=>rfl
 |[q]=>by simp[Ak]
 |q::r::l=>by
  have ih:=Q8 c p (r::l)
  rw[List.cons_append,Ch c q (by simp),ih,Ch c q (by simp)]
  simp
def Fw(l:List UInt8)(w:World)(e:Ending)(w':World):Prop:=e=.returned (.string ⟨l.toArray⟩)/\Below w.heap.size w w'
theorem Ga.open_{P:Nat->Prop}{w:World}{b:Nat}{kind text:List UInt8}{tags:List Nat}{kids:List SV}(h:Ga P w b (.mk kind text tags kids)):∃(A1 A2:Option Addr) (c1 c2:Nat) (xs:List (Nat × SV)),b<w.heap.size/\P b/\w.cell? ⟨b,0,none⟩=some (.string ⟨kind.toArray⟩)/\w.cell? ⟨b,1,none⟩=some (.string ⟨text.toArray⟩) /\
  w.cell? ⟨b,2,none⟩=some (.slice A1 tags.length c1)/\w.cell? ⟨b,3,none⟩=some (.slice A2 xs.length c2)/\Bh w A1 tags.length (En tags)/\Bh w A2 xs.length (Ep (xs.map (·.1)))/\tags.length<=1000/\xs.length<=1000/\kids=xs.map (·.2)/\∀x∈xs,Ga P w x.1 x.2:=by
 obtain⟨k,t,g,A1,A2,c1,c2,xs,hv,hb,hP,h0,h1,h2,h3,hr1,hr2,hl1,hl2,_,_,h⟩:=h
 injection hv with e1 e2 e3 e4
 subst e1 e2 e3 e4
 exact⟨A1,A2,c1,c2,xs,hb,hP,h0,h1,h2,h3,hr1,hr2,hl1,hl2,rfl,h⟩
theorem Ps{xs:List (Nat × SV)}{i:Nat}(hi:i<xs.length):(Ep (xs.map (·.1)))[i]'(by simp[Ep];exact hi)=.pointer (some ⟨xs[i].1,0,none⟩):=by simp[Ep]
theorem Qb0{l:List Nat}{i:Nat}(hi:i<l.length):(En l)[i]'(by simp[En];exact hi)=.int .i64 (l[i]:Int):=by simp[En]
theorem Pl(P:Nat->Prop)(b:Nat)(c:UInt8)(tx:List UInt8)(w:World)(hc:c=110\/c=116\/c=102)(h:Ga P w b (.mk [c] tx [] [])):Calls prog 22 #[.pointer (some ⟨b,0,none⟩)] w (Fw tx w):=by
 obtain⟨_,_,_,_,_,hb,_,h0,h1,_⟩:=h.open_
 have HR:=Aa h1
 rcases hc with rfl|rfl|rfl<;>
 ·go_enter func22,ntmps22
  go_wp2_with fail
  go_ret
  exact⟨rfl,As _ _⟩
theorem Qe3(P:Nat->Prop)(b:Nat)(kr:List UInt8)(kids:List SV)(ks:List Vl)(w:World)(h:Ga P w b (.mk (91::kr) [] [] kids))(hkr:kr.length<=100)(hl:(Az (.mk 91 [] 0 ks)).length<=100000000)(hkl:kids.length=ks.length)
  (ih:∀(i:Nat) (hi:i<kids.length) (hi2:i<ks.length) b W,Ga P W b kids[i]->(Az ks[i]).length<=100000000->Calls prog 22 #[.pointer (some ⟨b,0,none⟩)] W (Fw (Az ks[i]) W)):
  Calls prog 22 #[.pointer (some ⟨b,0,none⟩)] w (Fw (Az (.mk 91 [] 0 ks)) w):=by
 obtain⟨A1,A2,c1,c2,xs,hb,_,h0,_,_,h3,_,hr2,_,hxl,rfl,hk⟩:=h.open_
 have HF:=Aa (Fr ks)
 have hjl:(Ak 44 (ks.map Az)).length<=100000000:=by rw[Fr]at hl;simp at hl;omega
 rw[Bb]at hjl
 have Hjt:=Aa (fun i (hi:i<ks.length)=>(show Cu ((ks.take (i+1)).map Az)<=Cu (ks.map Az)/\(Az ks[i]).length+1+Cu ((ks.take i).map Az)=Cu ((ks.take (i+1)).map Az)from by
  refine⟨?_,?_⟩
  ·conv=>rhs;rw[<-List.take_append_drop (i+1) ks,List.map_append]
   have:∀a b,Cu a<=Cu (a++b):=fun a b=>by simp[Cu]
   exact this _ _
  rw[Bn ks i hi,List.map_append];simp[Cu];omega))
 have hkl2:xs.length=ks.length:=by simpa using hkl
 have Ih:=Aa ih
 have Hr:=Aa hr2
 have Hk:=Aa hk
 have Hkl:=Aa hkl2
 have Hlen:=Aa hjl
 have hle:ks.length<=xs.length:=by omega
 clear hkl hkl2 ih hr2 hk h hl hjl
 go_enter func22,ntmps22
 go_wp2_with fail
 go_loopw [4,3] (fun i s wr=>∃m:Nat,i=.int .i64 m/\m<=xs.length/\s=.string ⟨(91::Ak 44 ((ks.take m).map Az):List UInt8).toArray⟩/\Hid (Below w.heap.size w wr)) (fun i _ _=>xs.length - (intOf i).toNat)
 case atStart=>exact⟨0,rfl,Nat.zero_le _,rfl,As _ _⟩
 case round=>
  obtain⟨m,rfl,hm,rfl,Hbr⟩:=hrel
  have m1:(0:Int)<=(m:Int):=by omega
  have g3:=(Hbr.o.cell (p:=⟨b,3,none⟩) hb).trans h3
  have hbw:b<wr.heap.size:=by have:=Hbr.o.size;omega
  have HJ:=Aa (Bb 44 ((ks.take m).map Az))
  by_cases hlt:m<xs.length
  ·have m2:(m:Int)<(xs.length:Int):=by omega
   have hltk:m<ks.length:=by have:=Hkl.o;omega
   obtain⟨b8,o8,rfl,hb8,hc8⟩:=(Hr.o.below Hbr.o).at_ hlt
   rw[Ps hlt]at hc8
   have HX:=Aa (fun W (hW:Below w.heap.size w W)=>Ih.o m (by simpa using hlt) hltk xs[m].1 W (by rw[List.getElem_map];exact(Hk.o _ (List.getElem_mem hlt)).after hW) (by obtain⟨q1,q2⟩:=Hjt.o m hltk;have:=Hlen.o;omega))
   obtain⟨q1,q2⟩:=Hjt.o m hltk
   have hjm:(Ak 44 ((ks.take m).map Az)).length<=100000000:=by rw[HJ.o];have:=Hlen.o;omega
   have hpm:(Az ks[m]).length<=100000000:=by have:=Hlen.o;omega
   have HP:=Aa (show Ak 44 ((ks.take (m+1)).map Az)=if m=0 then Az ks[m]else Ak 44 ((ks.take m).map Az)++44::Az ks[m]from by
    rw[Bn ks m hltk,List.map_append,List.map_singleton,Q8]
    have:((ks.take m).map Az).length=m:=by simp;omega
    rw[this])
   have HP0:=Aa (show m=0->Ak 44 ((ks.take m).map Az)=[]from by rintro rfl;rfl)
   clear q1 q2
   generalize Az ks[m]=pm at *
   generalize Ak 44 ((ks.take m).map Az)=jm at *
   generalize xs[m].1=bm at *
   by_cases h0m:m=0
   ·have t0:¬(0<m):=by omega
    have t1:¬((0:Int)<(m:Int)):=by omega
    have HP1:=Aa (HP.o.trans (if_pos h0m))
    have HP2:=Aa (HP0.o h0m)
    clear h0m HP HP0 HJ
    go_wp2_with fail
    refine(HX.o _ Hbr.o).mono ?_
    rintro e w3 ⟨rfl,hb3⟩
    have Hb3:=Aa (Hbr.o.trans (hb3.mono Hbr.o.size))
    clear hb3
    go_wp2_with fail
    go_roundw
    case rel=>exact⟨m+1,by go_num,by omega,by rw[HP1.o,HP2.o];rfl,Hb3.o⟩
    case measure=>simp[intOf];omega
   have t0:0<m:=by omega
   have t1:(0:Int)<(m:Int):=by omega
   have HP1:=Aa (HP.o.trans (if_neg h0m))
   clear h0m HP HP0 HJ
   go_wp2_with fail
   refine(HX.o _ Hbr.o).mono ?_
   rintro e w3 ⟨rfl,hb3⟩
   have Hb3:=Aa (Hbr.o.trans (hb3.mono Hbr.o.size))
   clear hb3
   go_wp2_with fail
   go_roundw
   case rel=>exact⟨m+1,by go_num,by omega,by rw[HP1.o]<;>simp,Hb3.o⟩
   case measure=>simp[intOf];omega
  ·have em:m=ks.length:=by have:=Hkl.o;omega
   have HE:=Aa (show Ak 44 ((ks.take m).map Az)=Ak 44 (ks.map Az)by rw[em,List.take_length])
   have hjm:(Ak 44 ((ks.take m).map Az)).length<=100000000:=by rw[HE.o,Bb];exact Hlen.o
   clear em HJ
   generalize Ak 44 ((ks.take m).map Az)=jm at *
   go_wp2_with fail
   go_ret
   exact⟨by rw[HF.o,<-HE.o];rfl,Hbr.o⟩
theorem Z9(P:Nat->Prop)(b:Nat)(kr:List UInt8)(kids:List SV)(o:Option Vl)(w:World)(h:Ga P w b (.mk (63::kr) [] [] kids))(hkr:kr.length<=100)(hl:(Az (.mk 63 [] 0 o.toList)).length<=100000000)(hkl:kids.length=o.toList.length)
  (ih:∀x,o=some x->∀b W y,y∈kids->Ga P W b y->Calls prog 22 #[.pointer (some ⟨b,0,none⟩)] W (Fw (Az x) W)):
  Calls prog 22 #[.pointer (some ⟨b,0,none⟩)] w (Fw (Az (.mk 63 [] 0 o.toList)) w):=by
 obtain⟨A1,A2,c1,c2,xs,hb,_,h0,_,_,h3,_,hr2,_,hxl,rfl,hk⟩:=h.open_
 cases o with
 |none=>
  have hx0:xs=[]:=by simpa using hkl
  subst hx0
  clear hk hr2 ih h
  go_enter func22,ntmps22
  go_wp2_with fail
  go_ret
  exact⟨rfl,As _ _⟩
 |some x=>
  obtain⟨⟨bx,y⟩,rfl⟩:∃a,xs=[a]:=by
   cases xs with
   |nil=>simp at hkl
   |cons a l=>cases l with
    |nil=>exact⟨a,rfl⟩
    |cons b l=>simp at hkl
  have HF:=Aa (show Az (.mk 63 [] 0 [x])=43::Az x by simp[Az,Dx,E8,Ak])
  have hpl:(Az x).length<=100000000:=by have:=HF.o;simp only[Option.toList]at hl;rw[this]at hl;simp at hl;omega
  obtain⟨b8,o8,rfl,hb8,hc8⟩:=hr2.at_ (show 0<1 by decide)
  simp[Ep]at hc8
  have HX:=Aa (ih x rfl bx w y (by simp) (hk (bx,y) (by simp)))
  simp only[List.length_singleton]at h3
  clear hk hr2 ih h hkl
  generalize Az x=px at *
  go_enter func22,ntmps22
  go_wp2_with fail
  refine HX.o.mono ?_
  rintro e w3 ⟨rfl,hb3⟩
  have Hb3:=Aa hb3
  clear hb3
  go_wp2_with fail
  go_ret
  exact⟨by show _=Ending.returned (.string ⟨(Az (.mk 63 [] 0 [x])).toArray⟩);rw[HF.o];rfl,Hb3.o⟩
end
end Go.Proofs.YtkigmebejmmikaaGreatDoor
