/- Texts joined. Conditions: as each theorem names them. -/
import Derived.Test.YtkigmebejmmikaaGreatDoorQ08
import Derived.Test.YtkigmebejmmikaaGreatDoorQ13
import Derived.Test.YtkigmebejmmikaaGreatDoorQ30
set_option maxRecDepth 100000
set_option maxHeartbeats 32000000
set_option linter.unusedVariables false
set_option linter.unusedSimpArgs false
namespace Go.Proofs.YtkigmebejmmikaaGreatDoor
open Go.RowKit Go.Proofs.Tryz
section
attribute [local go_sem] Qja Qit Qib Qgw ByteArray.mk_append_mk
theorem Qfm(P:Nat->Prop)(b:Nat)(kr:List UInt8)(g:Nat)(w:World)(h:Ga P w b (.mk (64::kr) [69] [g] []))(hkr:kr.length<=100)(hg:g<=200):Calls prog 22 #[.pointer (some ⟨b,0,none⟩)] w (Fw (35::Aw g) w):=by
 obtain⟨A1,A2,c1,c2,xs,hb,_,h0,ht,h2,_,hr1,_⟩:=h.open_
 obtain⟨b6,o6,rfl,hb6,hc6⟩:=hr1.at_ (show 0<1 by decide)
 simp[En]at hc6 h2
 have Hd:=Aa (fun W=>Ja g g W (Ap _) (by omega))
 have hdl:=Ds 2 g (by have e:10 ^ (2+1)=1000:=rfl;omega)
 have HN:=Aa (show Calls prog 51 #[.pointer (some ⟨b,0,none⟩)] w (Fw (35::Aw g) w)from by
  clear h h0 hr1
  go_enter func51,ntmps51
  go_wp2_with fail
  refine(Hd.o _).mono ?_
  rintro e w3 ⟨rfl,hb3⟩
  have Hb3:=Aa hb3
  clear hb3
  go_wp2_with fail
  go_ret
  exact⟨rfl,Hb3.o⟩)
 clear h ht h2 hr1 Hd hc6
 go_enter func22,ntmps22
 go_wp2_with fail
 refine HN.o.mono ?_
 rintro e w3 ⟨rfl,hb3⟩
 have Hb3:=Aa hb3
 clear hb3
 go_wp2_with fail
 go_ret
 exact⟨rfl,Hb3.o⟩
theorem Qfx(P:Nat->Prop)(b:Nat)(kr:List UInt8)(g:Nat)(y:SV)(px:List UInt8)(w:World)(h:Ga P w b (.mk (64::kr) [85] [g] [y]))(hkr:kr.length<=100)(hg:g<=200)(hpl:px.length<=100000000)
  (ih:∀b W,Ga P W b y->Calls prog 22 #[.pointer (some ⟨b,0,none⟩)] W (Fw px W)):
  Calls prog 22 #[.pointer (some ⟨b,0,none⟩)] w (Fw (60::(Aw g++61::(px++[62]))) w):=by
 obtain⟨A1,A2,c1,c2,xs,hb,_,h0,ht,h2,h3,hr1,hr2,_,_,hkk,hk⟩:=h.open_
 obtain⟨⟨bx,y'⟩,rfl⟩:∃a,xs=[a]:=by
  cases xs with
  |nil=>simp at hkk
  |cons a l=>cases l with
   |nil=>exact⟨a,rfl⟩
   |cons b l=>simp at hkk
 obtain rfl:y=y':=by simpa using hkk
 obtain⟨b6,o6,rfl,hb6,hc6⟩:=hr1.at_ (show 0<1 by decide)
 obtain⟨b8,o8,rfl,hb8,hc8⟩:=hr2.at_ (show 0<1 by decide)
 simp[En]at hc6 h2
 simp[Ep]at hc8 h3
 have Hd:=Aa (fun W=>Ja g g W (Ap _) (by omega))
 have hdl:=Ds 2 g (by have e:10 ^ (2+1)=1000:=rfl;omega)
 have HX:=Aa (fun W (hW:Below w.heap.size w W)=>ih bx W ((hk (bx,y) (by simp)).after hW))
 have C6:=Aa hc6
 have C8:=Aa hc8
 have C2:=Aa h2
 have C3:=Aa h3
 have HN:=Aa (show Calls prog 51 #[.pointer (some ⟨b,0,none⟩)] w (Fw (60::(Aw g++61::(px++[62]))) w)from by
  clear h h0 hr1 hr2 hk hkk ih
  go_enter func51,ntmps51
  go_wp2_with fail
  clear h2 h3 hc6 hc8
  refine P3 [11,12,13,14,15,16,17,18,19,20,21,22,23,24,25,26,27,28,2]
   (fun ix v W=>match ix with|0=>v=.pointer (some ⟨b,0,none⟩)|1=>v=.pointer (some ⟨b,0,none⟩)|2=>v=.pointer (some ⟨b,2,none⟩)|3=>v=.slice (some ⟨b6,o6,none⟩) 1 c1|4=>v=.pointer (some ⟨b6,o6,none⟩)|5=>v=.int .i64 (g:Int)|6=>v=.string ⟨(Aw g:List UInt8).toArray⟩|7=>v=.string ⟨(60::Aw g:List UInt8).toArray⟩|8=>v=.string ⟨(60::(Aw g++[61]):List UInt8).toArray⟩|9=>v=.pointer (some ⟨b,0,none⟩)|10=>v=.pointer (some ⟨b,0,none⟩)|11=>v=.pointer (some ⟨b,3,none⟩)|12=>v=.slice (some ⟨b8,o8,none⟩) 1 c2|13=>v=.pointer (some ⟨b8,o8,none⟩)|14=>v=.pointer (some ⟨bx,0,none⟩)|15=>v=.string ⟨(px:List UInt8).toArray⟩|16=>v=.string ⟨(60::(Aw g++61::px):List UInt8).toArray⟩|17=>v=.string ⟨(60::(Aw g++61::(px++[62])):List UInt8).toArray⟩|18=>v=.string ⟨(60::(Aw g++61::(px++[62])):List UInt8).toArray⟩|_=>True)
   (fun L U W=>Below w.heap.size w W) ((As _ _).drew) ?_ ?_
  ·repeat (first|exact Aq.nil|(refine Aq.cons ?_ ?_;rotate_left))
   all_goals
    rintro L U W hL hpre HR Hdep K hK
    have hB:=HR.o
    have d2:=(hB.cell (p:=⟨b,2,none⟩) hb).trans C2.o
    have d3:=(hB.cell (p:=⟨b,3,none⟩) hb).trans C3.o
    have d6:=(hB.cell (p:=⟨b6,o6,none⟩) hb6).trans C6.o
    have d8:=(hB.cell (p:=⟨b8,o8,none⟩) hb8).trans C8.o
    first|(simp[Region.binds]at hpre;done)|simp[Region.binds]at hpre|clear hpre
   iterate 6
    ·go_simp
     first|exact hK _ _ _ rfl Ab HR.o rfl|exact kE hK HR.o|exact hK undef _ _ Ab Ab HR.o (by simp[Act.put,hpre])|exact hK _ _ _ Ab Ab HR.o rfl|exact kE hK HR.o
   ·go_simp
    refine(Hd.o W).mono ?_
    rintro e w3 ⟨rfl,hb3⟩
    exact hK _ _ _ rfl Ab (hB.trans (hb3.mono hB.size)) (by simp[Act.put,hpre])
   ·go_simp
    rw[if_neg (by first|omega|(simp;omega))]
    go_simp
    first|exact hK _ _ _ rfl Ab HR.o rfl|exact kE hK HR.o
   ·go_simp
    rw[if_neg (by first|omega|(simp;omega))]
    go_simp
    first|exact hK _ _ _ rfl Ab HR.o rfl|exact kE hK HR.o
   iterate 6
    ·go_simp
     first|exact hK _ _ _ rfl Ab HR.o rfl|exact kE hK HR.o|exact hK undef _ _ Ab Ab HR.o (by simp[Act.put,hpre])|exact hK _ _ _ Ab Ab HR.o rfl|exact kE hK HR.o
   ·go_simp
    refine(HX.o W hB).mono ?_
    rintro e w3 ⟨rfl,hb3⟩
    exact hK _ _ _ rfl Ab (hB.trans (hb3.mono hB.size)) (by simp[Act.put,hpre])
   ·go_simp
    rw[if_neg (by first|omega|(simp;omega))]
    go_simp
    first|exact hK _ _ _ rfl Ab HR.o rfl|exact kE hK HR.o
   ·go_simp
    rw[if_neg (by first|omega|(simp;omega))]
    go_simp
    first|exact hK _ _ _ rfl Ab HR.o rfl|exact kE hK HR.o
   ·go_simp
    first|exact hK _ _ _ rfl Ab HR.o rfl|exact kE hK HR.o|exact hK undef _ _ Ab Ab HR.o (by simp[Act.put,hpre])|exact hK _ _ _ Ab Ab HR.o rfl|exact kE hK HR.o
  rintro L U W hL hφ hR
  have e18:U 18=.string ⟨(60::(Aw g++61::(px++[62])):List UInt8).toArray⟩:=hφ 18 (by decide)
  simp only[e18]
  clear hφ
  have Hb9:=Aa hR
  clear hL hR
  go_wp2_with fail
  go_ret
  exact⟨rfl,Hb9.o⟩)
 clear h ht h2 h3 hr1 hr2 Hd hc6 hc8 hk hkk ih HX C6 C8 C2 C3
 go_enter func22,ntmps22
 go_wp2_with fail
 refine HN.o.mono ?_
 rintro e w3 ⟨rfl,hb3⟩
 have Hb3:=Aa hb3
 clear hb3
 go_wp2_with fail
 go_ret
 exact⟨rfl,Hb3.o⟩
theorem Qfa(P:Nat->Prop)(b:Nat)(kr:List UInt8)(kids:List SV)(ps:List (Fd × Vl))(w:World)(h:Ga P w b (.mk (64::kr) [82] (ps.map fun p=>p.1.tag) kids))(hkr:kr.length<=100)(hl:(Az (.mk 82 [] 0 (ps.map Dg))).length<=100000000)(hkl:kids.length=ps.length)
  (htg:∀p∈ps,p.1.tag<=200) (ih:∀(i:Nat) (hi:i<kids.length) (hi2:i<ps.length) b W,Ga P W b kids[i]->(Az ps[i].2).length<=100000000->Calls prog 22 #[.pointer (some ⟨b,0,none⟩)] W (Fw (Az ps[i].2) W)):
  Calls prog 22 #[.pointer (some ⟨b,0,none⟩)] w (Fw (Az (.mk 82 [] 0 (ps.map Dg))) w):=by
 obtain⟨A1,A2,c1,c2,xs,hb,_,h0,ht,h2,h3,hr1,hr2,_,hxl,rfl,hk⟩:=h.open_
 have HF:=Aa (Pa ps)
 have hjl:(Ak 44 (ps.map fun p=>Az (Dg p))).length<=100000000:=by rw[Pa]at hl;simp at hl;omega
 rw[Bb]at hjl
 have Hjt:=Aa (fun i (hi:i<ps.length)=>(show Cu ((ps.take (i+1)).map fun p=>Az (Dg p))<=Cu (ps.map fun p=>Az (Dg p))/\(Az (Dg ps[i])).length+1+Cu ((ps.take i).map fun p=>Az (Dg p))=Cu ((ps.take (i+1)).map fun p=>Az (Dg p))from by
  refine⟨?_,?_⟩
  ·conv=>rhs;rw[<-List.take_append_drop (i+1) ps,List.map_append]
   have:∀a b,Cu a<=Cu (a++b):=fun a b=>by simp[Cu]
   exact this _ _
  rw[Bn ps i hi,List.map_append];simp[Cu];omega))
 have hkl2:xs.length=ps.length:=by simpa using hkl
 have Ih:=Aa ih
 have Hr1:=Aa hr1
 have Hr:=Aa hr2
 have Hk:=Aa hk
 have Hkl:=Aa hkl2
 have Hlen:=Aa hjl
 have Htg:=Aa htg
 have C2:=Aa (show w.cell? ⟨b,2,none⟩=some (.slice A1 ps.length c1)by simpa using h2)
 have hle:ps.length<=xs.length:=by omega
 have HN:=Aa (show Calls prog 51 #[.pointer (some ⟨b,0,none⟩)] w (Fw (Az (.mk 82 [] 0 (ps.map Dg))) w)from by
  clear hkl hkl2 ih hr1 hr2 hk h hl hjl h0 h2 htg
  go_enter func51,ntmps51
  go_wp2_with fail
  go_loopw [4,3] (fun i s wr=>∃m:Nat,i=.int .i64 m/\m<=xs.length/\s=.string ⟨(123::Ak 44 ((ps.take m).map fun p=>Az (Dg p)):List UInt8).toArray⟩/\Hid (Below w.heap.size w wr)) (fun i _ _=>xs.length - (intOf i).toNat)
  case atStart=>exact⟨0,rfl,Nat.zero_le _,rfl,As _ _⟩
  case round=>
   obtain⟨m,rfl,hm,rfl,Hbr⟩:=hrel
   have m1:(0:Int)<=(m:Int):=by omega
   have g3:=(Hbr.o.cell (p:=⟨b,3,none⟩) hb).trans h3
   have hbw:b<wr.heap.size:=by have:=Hbr.o.size;omega
   have HJ:=Aa (Bb 44 ((ps.take m).map fun p=>Az (Dg p)))
   by_cases hlt:m<xs.length
   ·have m2:(m:Int)<(xs.length:Int):=by omega
    have hltk:m<ps.length:=by have:=Hkl.o;omega
    have m2':(m:Int)<(ps.length:Int):=by omega
    obtain⟨b8,o8,rfl,hb8,hc8⟩:=(Hr.o.below Hbr.o).at_ hlt
    rw[Ps hlt]at hc8
    obtain⟨b6,o6,e6,hb6,hc6⟩:=(Hr1.o.below Hbr.o).at_ (show m<(ps.map fun p=>p.1.tag).length by simpa using hltk)
    rw[Qb0 (by simpa using hltk),List.getElem_map]at hc6
    subst e6
    obtain⟨q1,q2⟩:=Hjt.o m hltk
    have hfl:=Pb ps[m]
    have hjm:(Ak 44 ((ps.take m).map fun p=>Az (Dg p))).length<=100000000:=by rw[HJ.o];have:=Hlen.o;omega
    have hpm:(Az ps[m].2).length<=100000000:=by have:=Hlen.o;omega
    have HX:=Aa (fun W (hW:Below w.heap.size w W)=>Ih.o m (by simpa using hlt) hltk xs[m].1 W (by rw[List.getElem_map];exact(Hk.o _ (List.getElem_mem hlt)).after hW) hpm)
    have hgt:=Htg.o _ (List.getElem_mem hltk)
    have Hd:=Aa (fun W=>Ja ps[m].1.tag ps[m].1.tag W (Ap _) (by omega))
    have hdl:=Ds 2 ps[m].1.tag (by have e:10 ^ (2+1)=1000:=rfl;omega)
    have HP:=Aa (show Ak 44 ((ps.take (m+1)).map fun p=>Az (Dg p))=(if m=0 then[]else Ak 44 ((ps.take m).map fun p=>Az (Dg p))++[44])++(Aw ps[m].1.tag++61::Az ps[m].2)from by
     rw[Bn ps m hltk,List.map_append,List.map_singleton,Q8]
     have:((ps.take m).map fun p=>Az (Dg p)).length=m:=by simp;omega
     rw[this,show Az (Dg ps[m])=Aw ps[m].1.tag++61::Az ps[m].2 by simp[Dg,Az,Dx,E8,Ak]]
     by_cases h0:m=0
     ·rw[if_pos h0,if_pos h0];rfl
     rw[if_neg h0,if_neg h0];simp)
    have HP0:=Aa (show m=0->Ak 44 ((ps.take m).map fun p=>Az (Dg p))=[]from by rintro rfl;rfl)
    clear q1 q2 hfl
    generalize Az ps[m].2=pm at *
    generalize Ak 44 ((ps.take m).map fun p=>Az (Dg p))=jm at *
    generalize xs[m].1=bm at *
    generalize ps[m].1.tag=gm at *
    obtain⟨acc,hacc⟩:∃acc:List UInt8,acc=if m=0 then 123::jm else 123::(jm++[44]):=⟨_,rfl⟩
    have hal:acc.length<=100000002:=by rw[hacc];split<;>simp<;>omega
    have HPn:=Aa (show (123::Ak 44 ((ps.take (m+1)).map fun p=>Az (Dg p)):List UInt8)=acc++(Aw gm++61::pm)from by
     rw[HP.o,hacc]
     by_cases h0:m=0
     ·rw[if_pos h0,if_pos h0,HP0.o h0];rfl
     rw[if_neg h0,if_neg h0];simp)
    have C8:=Aa hc8
    have C6:=Aa hc6
    have hzr:=Hbr.o.size
    by_cases h0m:m=0
    ·have t0:¬(0<m):=by omega
     have t1:¬((0:Int)<(m:Int)):=by omega
     have hA:=hacc.trans (if_pos h0m)
     have HA:=Aa hA
     clear h0m HP HP0 HJ hacc hA hc8 hc6
     go_wp2_with fail
     rw[<-HA.o]
     refine rgE [52,53,54,55,56,57,58,59,60,61,62,63,64,65,66,67,68,69,70,71,3]
      (fun ix v W=>match ix with|0=>v=.string ⟨(acc:List UInt8).toArray⟩|1=>v=.pointer (some ⟨b,0,none⟩)|2=>v=.pointer (some ⟨b,0,none⟩)|3=>v=.pointer (some ⟨b,2,none⟩)|4=>v=.slice (some ⟨b6,o6,none⟩) ps.length c1|5=>v=.int .i64 (m:Int)|6=>v=.pointer (some ⟨b6,o6+m,none⟩)|7=>v=.int .i64 (gm:Int)|8=>v=.string ⟨(Aw gm:List UInt8).toArray⟩|9=>v=.string ⟨(acc++Aw gm:List UInt8).toArray⟩|10=>v=.string ⟨(acc++(Aw gm++[61]):List UInt8).toArray⟩|11=>v=.pointer (some ⟨b,0,none⟩)|12=>v=.pointer (some ⟨b,0,none⟩)|13=>v=.pointer (some ⟨b,3,none⟩)|14=>v=.slice (some ⟨b8,o8,none⟩) xs.length c2|15=>v=.int .i64 (m:Int)|16=>v=.pointer (some ⟨b8,o8+m,none⟩)|17=>v=.pointer (some ⟨bm,0,none⟩)|18=>v=.string ⟨(pm:List UInt8).toArray⟩|19=>v=.string ⟨(acc++(Aw gm++61::pm):List UInt8).toArray⟩|20=>v=.string ⟨(acc++(Aw gm++61::pm):List UInt8).toArray⟩|_=>True)
      (fun L U W=>Below wr.heap.size wr W) ((As _ _).drew) ?_ ?_
     ·repeat (first|exact Aq.nil|(refine Aq.cons ?_ ?_;rotate_left))
      all_goals
       rintro L U W hL hpre hR hun hdep K hK
       have HR:=Aa hR
       have hB:=HR.o
       have Hun:=Aa hun
       have hBw:=Hbr.o.trans (hB.mono hzr)
       have d2:=(hBw.cell (p:=⟨b,2,none⟩) hb).trans C2.o
       have d3:=(hB.cell (p:=⟨b,3,none⟩) hbw).trans g3
       have d6:=(hB.cell (p:=⟨b6,o6+m,none⟩) hb6).trans C6.o
       have d8:=(hB.cell (p:=⟨b8,o8+m,none⟩) hb8).trans C8.o
       have Hdep:=Aa hdep
       clear hun hdep hR
       first|(simp[Region.binds]at hpre;done)|simp[Region.binds]at hpre|clear hpre
      ·have h20:L 20=false:=Hdep.o 20 _ rfl {on:=0,ground:=Ground.phase} (by simp) (by rfl) hL
       have u20:U 20=.string ⟨acc.toArray⟩:=(Hun.o 20 h20).trans rfl
       go_simp
       exact hK (.string ⟨acc.toArray⟩) _ _ rfl Ab HR.o (by simp[Act.put,u20])
      iterate 7
       ·go_simp
        first|exact hK _ _ _ rfl Ab HR.o rfl|exact kE hK HR.o|exact hK undef _ _ Ab Ab HR.o (by simp[Act.put,hpre])|exact hK _ _ _ Ab Ab HR.o rfl|exact kE hK HR.o
      ·go_simp
       refine(Hd.o W).mono ?_
       rintro e w3 ⟨rfl,hb3⟩
       exact hK _ _ _ rfl Ab (hB.trans (hb3.mono hB.size)) (by simp[Act.put,hpre])
      ·go_simp
       rw[if_neg (by first|omega|(simp;omega))]
       go_simp
       first|exact hK _ _ _ rfl Ab HR.o rfl|exact kE hK HR.o
      ·go_simp
       rw[if_neg (by first|omega|(simp;omega))]
       go_simp
       first|exact hK _ _ _ rfl Ab HR.o rfl|exact kE hK HR.o
      iterate 7
       ·go_simp
        first|exact hK _ _ _ rfl Ab HR.o rfl|exact kE hK HR.o|exact hK undef _ _ Ab Ab HR.o (by simp[Act.put,hpre])|exact hK _ _ _ Ab Ab HR.o rfl|exact kE hK HR.o
      ·go_simp
       refine(HX.o W hBw).mono ?_
       rintro e w3 ⟨rfl,hb3⟩
       exact hK _ _ _ rfl Ab (hB.trans (hb3.mono hB.size)) (by simp[Act.put,hpre])
      ·go_simp
       rw[if_neg (by first|omega|(simp;omega))]
       go_simp
       first|exact hK _ _ _ rfl Ab HR.o rfl|exact kE hK HR.o
      ·go_simp
       first|exact hK _ _ _ rfl Ab HR.o rfl|exact kE hK HR.o|exact hK undef _ _ Ab Ab HR.o (by simp[Act.put,hpre])|exact hK _ _ _ Ab Ab HR.o rfl|exact kE hK HR.o
     rintro L U W hL hφ hR
     have e20:U 20=.string ⟨(acc++(Aw gm++61::pm):List UInt8).toArray⟩:=hφ 20 (by decide)
     simp only[e20]
     clear hφ
     have Hb9:=Aa (Hbr.o.trans (hR.mono hzr))
     clear hL hR
     go_wp2_with fail
     go_roundw
     case rel=>exact⟨m+1,by go_num,by omega,by rw[HPn.o],Hb9.o⟩
     case measure=>simp[intOf];omega
    have t0:0<m:=by omega
    have t1:(0:Int)<(m:Int):=by omega
    have hA:=hacc.trans (if_neg h0m)
    have HA:=Aa hA
    clear h0m HP HP0 HJ hacc hA hc8 hc6
    go_wp2_with fail
    have HA2:=Aa (show (123::(jm++[44]):List UInt8)=acc from HA.o.symm)
    first|rw[HA2.o]|(simp only[List.cons_append];rw[HA2.o])
    refine rgE [52,53,54,55,56,57,58,59,60,61,62,63,64,65,66,67,68,69,70,71,3]
     (fun ix v W=>match ix with|0=>v=.string ⟨(acc:List UInt8).toArray⟩|1=>v=.pointer (some ⟨b,0,none⟩)|2=>v=.pointer (some ⟨b,0,none⟩)|3=>v=.pointer (some ⟨b,2,none⟩)|4=>v=.slice (some ⟨b6,o6,none⟩) ps.length c1|5=>v=.int .i64 (m:Int)|6=>v=.pointer (some ⟨b6,o6+m,none⟩)|7=>v=.int .i64 (gm:Int)|8=>v=.string ⟨(Aw gm:List UInt8).toArray⟩|9=>v=.string ⟨(acc++Aw gm:List UInt8).toArray⟩|10=>v=.string ⟨(acc++(Aw gm++[61]):List UInt8).toArray⟩|11=>v=.pointer (some ⟨b,0,none⟩)|12=>v=.pointer (some ⟨b,0,none⟩)|13=>v=.pointer (some ⟨b,3,none⟩)|14=>v=.slice (some ⟨b8,o8,none⟩) xs.length c2|15=>v=.int .i64 (m:Int)|16=>v=.pointer (some ⟨b8,o8+m,none⟩)|17=>v=.pointer (some ⟨bm,0,none⟩)|18=>v=.string ⟨(pm:List UInt8).toArray⟩|19=>v=.string ⟨(acc++(Aw gm++61::pm):List UInt8).toArray⟩|20=>v=.string ⟨(acc++(Aw gm++61::pm):List UInt8).toArray⟩|_=>True)
     (fun L U W=>Below wr.heap.size wr W) ((As _ _).drew) ?_ ?_
    ·repeat (first|exact Aq.nil|(refine Aq.cons ?_ ?_;rotate_left))
     all_goals
      rintro L U W hL hpre hR hun hdep K hK
      have HR:=Aa hR
      have hB:=HR.o
      have Hun:=Aa hun
      have hBw:=Hbr.o.trans (hB.mono hzr)
      have d2:=(hBw.cell (p:=⟨b,2,none⟩) hb).trans C2.o
      have d3:=(hB.cell (p:=⟨b,3,none⟩) hbw).trans g3
      have d6:=(hB.cell (p:=⟨b6,o6+m,none⟩) hb6).trans C6.o
      have d8:=(hB.cell (p:=⟨b8,o8+m,none⟩) hb8).trans C8.o
      have Hdep:=Aa hdep
      clear hun hdep hR
      first|(simp[Region.binds]at hpre;done)|simp[Region.binds]at hpre|clear hpre
     ·have h20:L 20=false:=Hdep.o 20 _ rfl {on:=0,ground:=Ground.phase} (by simp) (by rfl) hL
      have u20:U 20=.string ⟨acc.toArray⟩:=(Hun.o 20 h20).trans rfl
      go_simp
      exact hK (.string ⟨acc.toArray⟩) _ _ rfl Ab HR.o (by simp[Act.put,u20])
     iterate 7
      ·go_simp
       first|exact hK _ _ _ rfl Ab HR.o rfl|exact kE hK HR.o|exact hK undef _ _ Ab Ab HR.o (by simp[Act.put,hpre])|exact hK _ _ _ Ab Ab HR.o rfl|exact kE hK HR.o
     ·go_simp
      refine(Hd.o W).mono ?_
      rintro e w3 ⟨rfl,hb3⟩
      exact hK _ _ _ rfl Ab (hB.trans (hb3.mono hB.size)) (by simp[Act.put,hpre])
     ·go_simp
      rw[if_neg (by first|omega|(simp;omega))]
      go_simp
      first|exact hK _ _ _ rfl Ab HR.o rfl|exact kE hK HR.o
     ·go_simp
      rw[if_neg (by first|omega|(simp;omega))]
      go_simp
      first|exact hK _ _ _ rfl Ab HR.o rfl|exact kE hK HR.o
     iterate 7
      ·go_simp
       first|exact hK _ _ _ rfl Ab HR.o rfl|exact kE hK HR.o|exact hK undef _ _ Ab Ab HR.o (by simp[Act.put,hpre])|exact hK _ _ _ Ab Ab HR.o rfl|exact kE hK HR.o
     ·go_simp
      refine(HX.o W hBw).mono ?_
      rintro e w3 ⟨rfl,hb3⟩
      exact hK _ _ _ rfl Ab (hB.trans (hb3.mono hB.size)) (by simp[Act.put,hpre])
     ·go_simp
      rw[if_neg (by first|omega|(simp;omega))]
      go_simp
      first|exact hK _ _ _ rfl Ab HR.o rfl|exact kE hK HR.o
     ·go_simp
      first|exact hK _ _ _ rfl Ab HR.o rfl|exact kE hK HR.o|exact hK undef _ _ Ab Ab HR.o (by simp[Act.put,hpre])|exact hK _ _ _ Ab Ab HR.o rfl|exact kE hK HR.o
    rintro L U W hL hφ hR
    have e20:U 20=.string ⟨(acc++(Aw gm++61::pm):List UInt8).toArray⟩:=hφ 20 (by decide)
    simp only[e20]
    clear hφ
    have Hb9:=Aa (Hbr.o.trans (hR.mono hzr))
    clear hL hR
    go_wp2_with fail
    go_roundw
    case rel=>exact⟨m+1,by go_num,by omega,by rw[HPn.o],Hb9.o⟩
    case measure=>simp[intOf];omega
   ·have em:m=ps.length:=by have:=Hkl.o;omega
    have HE:=Aa (show Ak 44 ((ps.take m).map fun p=>Az (Dg p))=Ak 44 (ps.map fun p=>Az (Dg p))by rw[em,List.take_length])
    have hjm:(Ak 44 ((ps.take m).map fun p=>Az (Dg p))).length<=100000000:=by rw[HE.o,Bb];exact Hlen.o
    clear em HJ
    generalize Ak 44 ((ps.take m).map fun p=>Az (Dg p))=jm at *
    go_wp2_with fail
    go_ret
    exact⟨by rw[HF.o,<-HE.o];rfl,Hbr.o⟩)
 clear h ht h2 h3 hr1 hr2 hk hkl hkl2 ih Ih Hr1 Hr Hk hl hjl htg
 go_enter func22,ntmps22
 go_wp2_with fail
 refine HN.o.mono ?_
 rintro e w3 ⟨rfl,hb3⟩
 have Hb3:=Aa hb3
 clear hb3
 go_wp2_with fail
 go_ret
 exact⟨rfl,Hb3.o⟩
theorem Qe9{S:List Ty}(hT:∀t∈S,Dc t)(P:Nat->Prop):∀(d:Nat) (k:Kd) (v:Vl),Jo S d k v->Co k->∀(b:Nat) (w:World),Ga P w b (Cq S k v)->(Az v).length<=100000000->Calls prog 22 #[.pointer (some ⟨b,0,none⟩)] w (Fw (Az v) w):=by
 intro d
 induction d with
 |zero=>intro k v h;cases h
 |succ d ih=>
  intro k v h hk b w hw hl
  have hkl:=hk.2.2
  cases h with
  |@n _ _ m hs hb h=>
   rw[Qbb,show Bq k=[110]by unfold Bq Ce;rw[hs,hb];rfl]at hw
   rw[show Az (.mk 110 (Aw m) 0 [])=Aw m by simp[Az,Dx,E8]]
   exact Pl P b 110 _ w (.inl rfl) hw
  |@t _ _ s hs hb h=>
   rw[Xy,show Bq k=[116]by unfold Bq Ce;rw[hs,hb];rfl]at hw
   rw[show Az (.mk 116 s 0 [])=39::(s++[39])by simp[Az,Dx,E8]]
   exact Pl P b 116 _ w (.inr (.inl rfl)) hw
  |@f _ _ x hs hb=>
   rw[Xx,show Bq k=[102]by unfold Bq Ce;rw[hs,hb];rfl]at hw
   rw[show Az (.mk 102 (if x then Eb else K0) 0 [])=(if x then Eb else K0)by simp[Az,Dx,E8]]
   exact Pl P b 102 _ w (.inr (.inr rfl)) hw
  |@lst _ _ r ks hs hl2 h=>
   have e:Bq k=91::(r++Ce k):=by unfold Bq;rw[hs];rfl
   rw[Sv,e]at hw
   rw[e]at hkl
   refine Qe3 P b _ _ ks w hw (by simp at hkl ⊢;omega) hl (by simp) fun i hi hi2 b W hW hl3=>?_
   rw[List.getElem_map]at hW
   exact ih _ _ (h _ (List.getElem_mem hi2)) (Ks hk).1 b W hW hl3
  |@non _ _ r hs=>
   have e:Bq k=63::(r++Ce k):=by unfold Bq;rw[hs];rfl
   rw[Nj,e]at hw
   rw[e]at hkl
   exact Z9 P b _ _ none w hw (by simp at hkl ⊢;omega) hl rfl (by simp)
  |@som _ _ r x hs h=>
   have e:Bq k=63::(r++Ce k):=by unfold Bq;rw[hs];rfl
   rw[Nj,e]at hw
   rw[e]at hkl
   have hl3:(Az x).length<=100000000:=by have:=hl;simp[Az,Dx,E8,Ak]at this;omega
   refine Z9 P b _ _ (some x) w hw (by simp at hkl ⊢;omega) hl rfl fun y hy b W z hz hW=>?_
   injection hy with hy
   subst hy
   simp at hz
   subst hz
   exact ih _ _ h (Ks hk).1 b W hW hl3
  |@enm _ _ t f hs hb ht h9 hf=>
   have e:Bq k=64::(k.name++[59]):=by unfold Bq Ce;rw[hs,if_pos hb];rfl
   rw[S5,e]at hw
   rw[e]at hkl
   rw[show Az (.mk 69 [] f.tag [])=35::Aw f.tag by simp[Az,Dx,E8]]
   exact Qfm P b _ f.tag w hw (by simp at hkl ⊢;omega) ((hT t (Bs ht).1).2.2.1.1 f (Bk hf).2).2.1
  |@uni _ _ t f x hs hb ht h5 hf h=>
   have e:Bq k=64::(k.name++[59]):=by unfold Bq Ce;rw[hs,if_pos hb];rfl
   rw[Tn,e,Dn ht hf]at hw
   rw[e]at hkl
   have hkf:=Ph hT ht (by rw[h5];decide) (Bk hf).2
   have e2:Az (.mk 85 [] f.tag [x])=60::(Aw f.tag++61::(Az x++[62])):=by simp[Az,Dx,E8,Ak]
   rw[e2]at hl ⊢
   have hl3:(Az x).length<=100000000:=by simp at hl;omega
   exact Qfx P b _ f.tag _ (Az x) w hw (by simp at hkl ⊢;omega) hkf.2 hl3 fun b W hW=>ih _ _ h hkf.1 b W hW hl3
  |@rcd _ _ t fs hs hb ht h2 hf h hn hp=>
   have e:Bq k=64::(k.name++[59]):=by unfold Bq Ce;rw[hs,if_pos hb];rfl
   rw[Tz,e]at hw
   rw[e]at hkl
   have hkf:=fun p (hp:p∈fs)=>Ph hT ht (by rw[h2];decide) (Bk (hf p hp)).2
   refine Qfa P b _ _ fs w hw (by simp at hkl ⊢;omega) hl (by simp) (fun p hp=>(hkf p hp).2) fun i hi hi2 b W hW hl3=>?_
   have hm:=List.getElem_mem hi2
   rw[List.getElem_map,Dn ht (hf _ hm)]at hW
   exact ih _ _ (h _ hm) (hkf _ hm).1 b W hW hl3
theorem Qfz{S:List Ty}(hT:∀t∈S,Dc t)(P:Nat->Prop):∀(d:Nat) (k:Kd) (v:Vl),Jo S d k v->Co k->∀(b:Nat) (w:World),Ga P w b (Cq S k v)->(Az v).length<=1000000->Calls prog 22 #[.pointer (some ⟨b,0,none⟩)] w (Fw (Az v) w):=
 fun d k v h1 h2 b w h3 h4=>Qe9 hT P d k v h1 h2 b w h3 (Nat.le_trans h4 (by decide))
structure Qdu(w:World)(xv y0 y1 y2 h0 h1:Value)(S:List Ty)(K:Kd->List UInt8->Option (Vl × List UInt8))(fs:List Fd)(s:List UInt8)(wr:World)(tv kv:Value)(ps:List (Fd × Vl))(xs:List (Nat × SV))(last:Nat)(tt:List UInt8):Prop where
 bel:Below w.heap.size w wr
 st:M5 (w.heap.size+3) (w.heap.size+2) wr h0 h1 tv tv kv kv (ps.map fun p=>p.1.tag) xs
 box:wr.cell? ⟨w.heap.size,0,none⟩=some xv
 b0:wr.cell? ⟨w.heap.size+1,0,none⟩=some y0
 b1:wr.cell? ⟨w.heap.size+1,1,none⟩=some y1
 b2:wr.cell? ⟨w.heap.size+1,2,none⟩=some y2
 len:xs.length=ps.length
 eq:xs.map (·.2)=ps.map fun p=>Cq S p.1.kind p.2
 rs:RS S K fs s ps last tt
theorem Qdu.after{w wr W:World}{xv y0 y1 y2 h0 h1:Value}{S:List Ty}{K:Kd->List UInt8->Option (Vl × List UInt8)}{fs:List Fd}{s tt:List UInt8}{tv kv:Value}{ps:List (Fd × Vl)}{xs:List (Nat × SV)}{last:Nat}
  (h:Qdu w xv y0 y1 y2 h0 h1 S K fs s wr tv kv ps xs last tt) (hb:Below wr.heap.size wr W):Qdu w xv y0 y1 y2 h0 h1 S K fs s W tv kv ps xs last tt:=by
 have hlt:=h.st.lt
 have hc:∀b o,b<w.heap.size+3->W.cell? ⟨b,o,none⟩=wr.cell? ⟨b,o,none⟩:=fun b o hb'=>hb.cell (p:=⟨b,o,none⟩) (show b<wr.heap.size by omega)
 exact⟨h.bel.trans (hb.mono h.bel.size),h.st.after hb,(hc _ _ (by omega)).trans h.box,(hc _ _ (by omega)).trans h.b0,(hc _ _ (by omega)).trans h.b1,(hc _ _ (by omega)).trans h.b2,h.len,h.eq,h.rs⟩
theorem M5.last{base B n c g:Nat}{W:World}{A:Option Addr}{h0 h1 tu ku kv:Value}{gs:List Nat}{xs:List (Nat × SV)}(h:M5 base B W h0 h1 tu (.slice A n c) ku kv (gs++[g]) xs):
  ∃b,A=some ⟨b,0,none⟩/\n=gs.length+1/\b<W.heap.size/\W.cell? ⟨b,gs.length,none⟩=some (.int .i64 (g:Int)):=by
 have hn:=Qgg h.tags
 have e:(gs++[g]).length=gs.length+1:=by simp
 rcases h.tags.2 with⟨e0,h0⟩|⟨b,cap,cur,e1,_⟩
 ·omega
 injection e1 with e1 _ _
 subst e1
 refine⟨b,rfl,by omega,(h.tags.lt b rfl).2,?_⟩
 have:=h.tags.cells (g:=b) rfl gs.length (.int .i64 (g:Int)) (by simp[En])
 have e2:(⟨b,0,none⟩:Addr).add gs.length=⟨b,0+gs.length,none⟩:=by unfold Addr.add;split<;>simp_all
 rw[e2]at this
 simpa using this
def Ro(base:Nat)(tv kv:Value)(W:World)(x:Nat × SV):Prop:=Ga (fun c=>base<=c/\kv.ownBlock≠some c/\tv.ownBlock≠some c) W x.1 x.2
theorem Ro.appT{base:Nat}{W W':World}{tv tv' kv:Value}{x:Nat × SV}(h:Ro base tv kv W x)(hg:W.grownBy W' tv.ownBlock)(hwh:tv'.ownBlock=tv.ownBlock\/∃k,tv'.ownBlock=some k/\W.heap.size<=k):Ro base tv' kv W' x:=by
 refine Ga.kept h (fun b o v hb _ hv=>hg.cell hv fun e=>hb.2.2 e.symm) hg.size fun c hc hl=>⟨hc.1,hc.2.1,?_⟩
 rcases hwh with e|⟨k,e,hk⟩
 ·rw[e];exact hc.2.2
 rw[e];intro e;injection e with e;omega
structure J6(base B:Nat)(W1:World)(h0 h1:Value)(A:Option Addr)(n c:Nat)(ku:Value)(gs:List Nat)(xs ks:List (Nat × SV))(g:Nat)(l7 l8 l11:Bool)(u7 u8:Value)(W:World):Prop where
 p0:l7=false->W=W1
 p1:l7=true->l8=false->W=W1.alloc (.cells [.int .i64 (g:Int)].toArray 3)/\u7=.slice (some ⟨W1.heap.size,0,none⟩) 1 1
 p2:l8=true->l11=false->∃A6 c6,u8=.slice A6 (gs++[g]).length c6/\M5 base B W h0 h1 (.slice A n c) u8 ku ku (gs++[g]) xs/\Below base W1 W/\∀x∈ks,Ro base u8 ku W x
 p3:l11=true->∃A6 c6,M5 base B W h0 h1 (.slice A6 (gs++[g]).length c6) (.slice A6 (gs++[g]).length c6) ku ku (gs++[g]) xs/\Below B W1 W/\∀x∈ks,Ro base (.slice A6 (gs++[g]).length c6) ku W x
 p4:l11=true->∀b o,b<base->b≠B->W.cell? ⟨b,o,none⟩=W1.cell? ⟨b,o,none⟩
section
variable {base B n c g:Nat} {W1 W:World} {h0 h1 ku u7 u8:Value} {A:Option Addr} {gs:List Nat} {xs:List (Nat × SV)} {ks:List (Nat × SV)} {l7 l8 l11:Bool}
theorem J6.start:J6 base B W1 h0 h1 A n c ku gs xs ks g false false false u7 u8 W1:=⟨fun _=>rfl,fun h=>Bool.noConfusion h,fun h=>Bool.noConfusion h,fun h=>Bool.noConfusion h,fun h=>Bool.noConfusion h⟩
theorem J6.be(h:J6 base B W1 h0 h1 A n c ku gs xs ks g l7 l8 l11 u7 u8 W)(h8:l8=false):Below W1.heap.size W1 W:=by
 cases l7 with
 |false=>rw[h.p0 rfl];exact As _ _
 |true=>rw[(h.p1 rfl h8).1];exact(As _ _).alloc (Ap _) _
theorem J6.put7(h8:l8=false)(h11:l11=false):J6 base B W1 h0 h1 A n c ku gs xs ks g true l8 l11 (.slice (some ⟨W1.heap.size,0,none⟩) 1 1) u8 (W1.alloc (.cells #[.int .i64 (g:Int)] 3)):=
 ⟨fun h=>Bool.noConfusion h,fun _ _=>⟨rfl,rfl⟩,fun h=>absurd (h8.symm.trans h) (by decide),fun h=>absurd (h11.symm.trans h) (by decide),fun h=>absurd (h11.symm.trans h) (by decide)⟩
theorem J6.put8(h7:l7=true)(h11:l11=false){v:Value}(hS:M5 base B W1 h0 h1 (.slice A n c) (.slice A n c) ku ku gs xs)(hk:∀x∈ks,Ro base (.slice A n c) ku W1 x)
  (hown:W.ownsRow base 3 1 v (gs.length+1) (En gs++[.int .i64 (g:Int)])) (hg:W1.grownBy W (Value.slice A n c).ownBlock) (hwh:v.ownBlock=(Value.slice A n c).ownBlock\/∃k,v.ownBlock=some k/\W1.heap.size<=k):
  J6 base B W1 h0 h1 A n c ku gs xs ks g l7 true l11 u7 v W/\∃A6 c6,v=.slice A6 (gs++[g]).length c6:=by
 obtain⟨A6,c6,e,h1,h2⟩:=hS.pushT hown hg hwh
 exact⟨⟨fun h=>absurd (h7.symm.trans h) (by decide),fun _ h=>Bool.noConfusion h,fun _ _=>⟨A6,c6,e,h1,h2,fun x hx=>(hk x hx).appT hg hwh⟩,fun h=>absurd (h11.symm.trans h) (by decide),fun h=>absurd (h11.symm.trans h) (by decide)⟩,A6,c6,e⟩
theorem J6.put11(h:J6 base B W1 h0 h1 A n c ku gs xs ks g l7 l8 l11 u7 u8 W)(h7:l7=true)(h8:l8=true)(h11:l11=false){W':World}(hW:W'=W.setCell ⟨B,2,none⟩ u8):J6 base B W1 h0 h1 A n c ku gs xs ks g l7 l8 true u7 u8 W':=by
 subst hW
 obtain⟨A6,c6,e,hS,hb,hk⟩:=h.p2 h8 h11
 have hB:=hS.hB
 have hk2:∀x∈ks,Ro base u8 ku (W.setCell ⟨B,2,none⟩ u8) x:=fun x hx=>Ga.grown (hk x hx) (Bc W B 2 u8) fun c hc e=>by injection e with e;have:=hc.1;omega
 have hS2:=hS.set2
 rw[e]at hS2 hk2 ⊢
 exact⟨fun h=>absurd (h7.symm.trans h) (by decide),fun _ h=>absurd (h8.symm.trans h) (by decide),fun _ h=>Bool.noConfusion h,fun _=>⟨A6,c6,hS2,(hb.mono (Nat.le_of_lt hS.hB)).setCell (p:=⟨B,2,none⟩) (Ap B) _,hk2⟩,fun _ b o h1 h2=>((Bc W B 2 _).cell_far ⟨b,o,none⟩ (Nat.lt_of_lt_of_le (Nat.lt_of_lt_of_le h1 hS.bs) (Ap _)) (by simp;exact h2)).trans (hb.cell (p:=⟨b,o,none⟩) h1)⟩
end
end
end Go.Proofs.YtkigmebejmmikaaGreatDoor
