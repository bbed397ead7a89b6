/- Texts joined. Conditions: as each theorem names them. -/
import Derived.Test.YtkigmebejmmikaaGreatDoorG19
set_option maxRecDepth 100000
set_option maxHeartbeats 32000000
set_option linter.unusedVariables false
set_option linter.unusedSimpArgs false
namespace Go.Proofs.YtkigmebejmmikaaGreatDoor
open Go.RowKit Go.Proofs.Tryz
section
attribute [local go_sem] Qjy Qiu Qil Qgp ByteArray.mk_append_mk
theorem Qfz(S:List Ty)(k:Kd)(d x:List UInt8)(A:Option Addr)(n c:Nat)(w:World)(hx:x.length<=4000000)
  (HR:x.length<=400->Calls prog 30 #[.agg #[.slice A n c],.string ⟨x.toArray⟩,.string ⟨d.toArray⟩,.int .i64 12] w (At S k (Ak S 20 12 k x) w)):
  Calls prog 21 #[.slice A n c,.string ⟨d.toArray⟩,.string ⟨x.toArray⟩] w (T7 (if (Pt S k x).isSome=true then some x else none) w):=by
 obtain⟨oq,hoq⟩:∃oq,(if (Pt S k x).isSome=true then some x else none)=oq:=⟨_,rfl⟩
 have HQ:=Aa hoq
 rw[hoq]
 clear hoq
 by_cases h400:400<x.length
 ·have t5:(400:Int)<(x.length:Int):=by omega
  have HV:=Aa (show Pt S k x=none from by unfold Pt;rw[if_pos h400])
  clear h400 HR
  go_enter func21,ntmps21
  go_wp2_with fail
  refine bodyPost_ret (v:=.tuple #[.string ⟨#[]⟩,.bool false]) (by simp[results,results21,go_sem]) rfl ?_
  rw[<-HQ.o,HV.o]
  exact⟨rfl,Ay _ _⟩
 have t5:¬((400:Int)<(x.length:Int)):=by omega
 have HR:=Aa (HR (by omega))
 have HV:=Aa (show Pt S k x=match Ak S 20 12 k x with|some (v,[])=>some v|_=>none from by unfold Pt;rw[if_neg h400];rfl)
 generalize Ak S 20 12 k x=o at *
 clear h400
 go_enter func21,ntmps21
 go_wp2_with fail
 refine HR.o.mono ?_
 rintro e w5 hp
 obtain⟨vp,vr,vk,rfl,hb5,hm⟩:=hp.q
 have Hb5:=Aa hb5
 clear hb5 hp
 cases o with
 |none=>
  obtain⟨⟨q0,rfl⟩,⟨r0,rfl⟩,rfl⟩:=hm
  go_wp2_with fail
  refine bodyPost_ret (v:=.tuple #[.string ⟨#[]⟩,.bool false]) (by simp[results,results21,go_sem]) rfl ?_
  rw[<-HQ.o,HV.o]
  exact⟨rfl,Hb5.o⟩
 |some y=>
  obtain⟨v,r⟩:=y
  obtain⟨⟨b,rfl,hsv⟩,rfl,rfl⟩:=hm
  clear hsv
  cases r with
  |nil=>
   go_wp2_with fail
   refine bodyPost_ret (v:=.tuple #[.string ⟨x.toArray⟩,.bool true]) (by simp[results,results21,go_sem]) rfl ?_
   rw[<-HQ.o,HV.o]
   exact⟨rfl,Hb5.o⟩
  |cons c z=>
   go_wp2_with fail
   refine bodyPost_ret (v:=.tuple #[.string ⟨#[]⟩,.bool false]) (by simp[results,results21,go_sem]) rfl ?_
   rw[<-HQ.o,HV.o]
   exact⟨rfl,Hb5.o⟩
theorem Zl(P:Nat->Prop)(b:Nat)(kr:List UInt8)(g:Nat)(w:World)(h:Fh P w b (.mk (64::kr) [69] [g] []))(hkr:kr.length<=100)(hg:g<=200):Calls prog 22 #[b] w (E8 (35::Az g) w):=by
 obtain⟨A1,A2,c1,c2,xs,hb,_,h0,ht,h2,_,hr1,_⟩:=h.open_;obtain⟨b6,o6,rfl,hb6,hc6⟩:=hr1.at_ (show 0<1 by decide);simp[B6]at hc6 h2;have Hd:=Aa (fun W=>H6 g g W (As _) aE);have hdl:=Df 2 g bZ
 have HN:=Aa (show Calls prog 51 #[b] w (E8 (35::Az g) w)from by
  clear h h0 hr1;go_enter func51,ntmps51;go_wp2_with fail;refine(Hd.o _).mono ?_;rintro e w3 ⟨rfl,hb3⟩;have Hb3:=Aa hb3;clear hb3;go_wp2_with fail;go_ret;exact⟨rfl,Hb3.o⟩)
 clear h ht h2 hr1 Hd hc6;go_enter func22,ntmps22;go_wp2_with fail;refine HN.o.mono ?_;rintro e w3 ⟨rfl,hb3⟩;have Hb3:=Aa hb3;clear hb3;go_wp2_with fail;go_ret;exact⟨rfl,Hb3.o⟩
theorem Qal(P:Nat->Prop)(b:Nat)(kr:List UInt8)(g:Nat)(y:SV)(px:List UInt8)(w:World)(h:Fh P w b (.mk (64::kr) [85] [g] [y]))(hkr:kr.length<=100)(hg:g<=200)(hpl:px.length<=100000000)
  (ih:∀b W,Fh P W b y->Calls prog 22 #[.pointer (some ⟨b,0,none⟩)] W (E8 px W)):
  Calls prog 22 #[.pointer (some ⟨b,0,none⟩)] w (E8 (60::(Az g++61::(px++[62]))) w):=by
 obtain⟨A1,A2,c1,c2,xs,hb,_,h0,ht,h2,h3,hr1,hr2,_,_,hkk,hk⟩:=h.open_;obtain⟨⟨bx,y'⟩,rfl⟩:∃a,xs=[a]:=by
  cases xs with
  |nil=>simp at hkk
  |cons a l=>cases l with
   |nil=>exact⟨a,rfl⟩
   |cons b l=>simp at hkk
 obtain rfl:y=y':=by simpa using hkk
 obtain⟨b6,o6,rfl,hb6,hc6⟩:=hr1.at_ (show 0<1 by decide);obtain⟨b8,o8,rfl,hb8,hc8⟩:=hr2.at_ (show 0<1 by decide);simp[B6]at hc6 h2;simp[Cy]at hc8 h3;have Hd:=Aa (fun W=>H6 g g W (As _) aE);have hdl:=Df 2 g bZ;have HX:=Aa (fun W (hW:Below w w W)=>ih bx W ((hk (bx,y) aI).after hW));have C6:=Aa hc6;have C8:=Aa hc8;have C2:=Aa h2;have C3:=Aa h3
 have HN:=Aa (show Calls prog 51 #[.pointer (some ⟨b,0,none⟩)] w (E8 (60::(Az g++61::(px++[62]))) w)from by
  clear h h0 hr1 hr2 hk hkk ih;go_enter func51,ntmps51;go_wp2_with fail;clear h2 h3 hc6 hc8;refine Sy [11,12,13,14,15,16,17,18,19,20,21,22,23,24,25,26,27,28,2]
   (fun ix v W=>match ix with|0=>v=.pointer (some ⟨b,0,none⟩)|1=>v=.pointer (some ⟨b,0,none⟩)|2=>v=.pointer (some ⟨b,2,none⟩)|3=>v=.slice (some ⟨b6,o6,none⟩) 1 c1|4=>v=.pointer (some ⟨b6,o6,none⟩)|5=>v=(g:Int)|6=>v=(Az g:List UInt8)|7=>v=(60::Az g:List UInt8)|8=>v=.string ⟨(60::(Az g++[61]):List UInt8).toArray⟩|9=>v=.pointer (some ⟨b,0,none⟩)|10=>v=.pointer (some ⟨b,0,none⟩)|11=>v=.pointer (some ⟨b,3,none⟩)|12=>v=.slice (some ⟨b8,o8,none⟩) 1 c2|13=>v=.pointer (some ⟨b8,o8,none⟩)|14=>v=bx|15=>v=(px:List UInt8)|16=>v=.string ⟨(60::(Az g++61::px):List UInt8).toArray⟩|17=>v=.string ⟨(60::(Az g++61::(px++[62])):List UInt8).toArray⟩|18=>v=.string ⟨(60::(Az g++61::(px++[62])):List UInt8).toArray⟩|_=>True)
   (fun L U W=>Below w w W) ((Ay _ _).drew) ?_ ?_
  ·repeat (first|exact Ba.nil|(refine Ba.cons ?_ ?_;rotate_left))
   all_goals
    rintro L U W hL hpre HR Hdep K hK;have hB:=HR.o;have d2:=(hB.cell (p:=⟨b,2,none⟩) hb).trans C2.o;have d3:=(hB.cell (p:=⟨b,3,none⟩) hb).trans C3.o;have d6:=(hB.cell (p:=⟨b6,o6,none⟩) hb6).trans C6.o;have d8:=(hB.cell (p:=⟨b8,o8,none⟩) hb8).trans C8.o;first|(simp[Region.binds]at hpre;done)|simp[Region.binds]at hpre|clear hpre
   iterate 6
    ·exact fG
   ·exact gd
   ·exact fM
   ·exact fM
   iterate 6
    ·exact fG
   ·go_simp;refine(HX.o W hB).mono ?_;rintro e w3 ⟨rfl,hb3⟩;exact hK _ _ _ rfl Ad (hB.trans (hb3.mono hB.size)) aF
   ·exact fM
   ·exact fM
   ·exact fG
  rintro L U W hL hφ hR;have e18:U 18=.string ⟨(60::(Az g++61::(px++[62])):List UInt8).toArray⟩:=hφ 18 aH;simp only[e18];clear hφ;have Hb9:=Aa hR;clear hL hR;go_wp2_with fail;go_ret;exact⟨rfl,Hb9.o⟩)
 clear h ht h2 h3 hr1 hr2 Hd hc6 hc8 hk hkk ih HX C6 C8 C2 C3;go_enter func22,ntmps22;go_wp2_with fail;refine HN.o.mono ?_;rintro e w3 ⟨rfl,hb3⟩;have Hb3:=Aa hb3;clear hb3;go_wp2_with fail;go_ret;exact⟨rfl,Hb3.o⟩
theorem Zf(P:Nat->Prop)(b:Nat)(kr:List UInt8)(kids:List SV)(ps:List (Fd × Vl))(w:World)(h:Fh P w b (.mk (64::kr) [82] (ps.map fun p=>p.1.tag) kids))(hkr:kr.length<=100)(hl:(Au (.mk 82 [] 0 (ps.map Cw))).length<=100000000)(hkl:kids.length=ps.length)
  (htg:∀p∈ps,p.1.tag<=200) (ih:∀(i:Nat) (hi:i<kids.length) (hi2:i<ps.length) b W,Fh P W b kids[i]->(Au ps[i].2).length<=100000000->Calls prog 22 #[.pointer (some ⟨b,0,none⟩)] W (E8 (Au ps[i].2) W)):
  Calls prog 22 #[.pointer (some ⟨b,0,none⟩)] w (E8 (Au (.mk 82 [] 0 (ps.map Cw))) w):=by
 obtain⟨A1,A2,c1,c2,xs,hb,_,h0,ht,h2,h3,hr1,hr2,_,hxl,rfl,hk⟩:=h.open_;have HF:=Aa (Jk ps);have hjl:(An 44 (ps.map fun p=>Au (Cw p))).length<=100000000:=by rw[Jk]at hl;simp at hl;omega
 rw[B1]at hjl
 have Hjt:=Aa (fun i (hi:i<ps.length)=>(show Cq ((ps.take (i+1)).map fun p=>Au (Cw p))<=Cq (ps.map fun p=>Au (Cw p))/\(Au (Cw ps[i])).length+1+Cq ((ps.take i).map fun p=>Au (Cw p))=Cq ((ps.take (i+1)).map fun p=>Au (Cw p))from by
  refine⟨?_,?_⟩
  ·conv=>rhs;rw[<-List.take_append_drop (i+1) ps,aw]
   exact iS
  rw[Bx ps i hi,aw];simp[Cq];omega))
 have hkl2:xs.length=ps.length:=by simpa using hkl
 have Ih:=Aa ih;have Hr1:=Aa hr1;have Hr:=Aa hr2;have Hk:=Aa hk;have Hkl:=Aa hkl2;have Hlen:=Aa hjl;have Htg:=Aa htg;have C2:=Aa (show w.cell? ⟨b,2,none⟩=some (.slice A1 ps.length c1)by simpa using h2);have hle:ps.length<=xs.length:=aE
 have HN:=Aa (show Calls prog 51 #[.pointer (some ⟨b,0,none⟩)] w (E8 (Au (.mk 82 [] 0 (ps.map Cw))) w)from by
  clear hkl hkl2 ih hr1 hr2 hk h hl hjl h0 h2 htg;go_enter func51,ntmps51;go_wp2_with fail;go_loopw [4,3] (fun i s wr=>∃m:Nat,i=.int .i64 m/\m<=xs.length/\s=.string ⟨(123::An 44 ((ps.take m).map fun p=>Au (Cw p)):List UInt8).toArray⟩/\Hid (Below w w wr)) (fun i _ _=>xs.length - (intOf i).toNat)
  case atStart=>exact⟨0,rfl,af _,rfl,Ay _ _⟩
  case round=>
   obtain⟨m,rfl,hm,rfl,Hbr⟩:=hrel;have m1:(0:Int)<=(m:Int):=aE;have g3:=(Hbr.o.cell (p:=⟨b,3,none⟩) hb).trans h3;have hbw:b<wr.heap.size:=dI;have HJ:=Aa (B1 44 ((ps.take m).map fun p=>Au (Cw p)));by_cases hlt:m<xs.length
   ·have m2:(m:Int)<(xs.length:Int):=aE;have hltk:m<ps.length:=ef;have m2':(m:Int)<(ps.length:Int):=aE;obtain⟨b8,o8,rfl,hb8,hc8⟩:=(Hr.o.below Hbr.o).at_ hlt;rw[T8 hlt]at hc8;obtain⟨b6,o6,e6,hb6,hc6⟩:=(Hr1.o.below Hbr.o).at_ (show m<(ps.map fun p=>p.1.tag).length by simpa using hltk);rw[Qbf (by simpa using hltk),List.getElem_map]at hc6;subst e6;obtain⟨q1,q2⟩:=Hjt.o m hltk;have hfl:=Kt ps[m];have hjm:(An 44 ((ps.take m).map fun p=>Au (Cw p))).length<=100000000:=by rw[HJ.o];have:=Hlen.o;omega
    have hpm:(Au ps[m].2).length<=100000000:=by have:=Hlen.o;omega
    have HX:=Aa (fun W (hW:Below w w W)=>Ih.o m (by simpa using hlt) hltk xs[m].1 W eu hpm);have hgt:=Htg.o _ (ad hltk);have Hd:=Aa (fun W=>H6 ps[m].1.tag ps[m].1.tag W (As _) aE);have hdl:=Df 2 ps[m].1.tag bZ
    have HP:=Aa (show An 44 ((ps.take (m+1)).map fun p=>Au (Cw p))=(if m=0 then[]else An 44 ((ps.take m).map fun p=>Au (Cw p))++[44])++(Az ps[m].1.tag++61::Au ps[m].2)from by
     rw[Bx ps m hltk,aw,List.map_singleton,Rb];have:((ps.take m).map fun p=>Au (Cw p)).length=m:=aM;rw[this,show Au (Cw ps[m])=Az ps[m].1.tag++61::Au ps[m].2 by simp[Cw,Au,Cs,Ez,An]];by_cases h0:m=0
     ·rw[if_pos h0,if_pos h0];rfl
     rw[if_neg h0,if_neg h0];simp)
    have HP0:=@Aa (m=0->An 44 ((ps.take m).map fun p=>Au (Cw p))=[]) (by rintro rfl;rfl);clear q1 q2 hfl;generalize Au ps[m].2=pm at *;generalize An 44 ((ps.take m).map fun p=>Au (Cw p))=jm at *;generalize xs[m].1=bm at *;generalize ps[m].1.tag=gm at *;obtain⟨acc,hacc⟩:∃acc:List UInt8,acc=if m=0 then 123::jm else 123::(jm++[44]):=⟨_,rfl⟩
    have hal:acc.length<=100000002:=by rw[hacc];split<;>simp<;>omega
    have HPn:=Aa (show (123::An 44 ((ps.take (m+1)).map fun p=>Au (Cw p)):List UInt8)=acc++(Az gm++61::pm)from by
     rw[HP.o,hacc];by_cases h0:m=0
     ·rw[if_pos h0,if_pos h0,HP0.o h0];rfl
     rw[if_neg h0,if_neg h0];simp)
    have C8:=Aa hc8;have C6:=Aa hc6;have hzr:=Hbr.o.size;by_cases h0m:m=0
    ·have t0:¬(0<m):=aE;have t1:¬((0:Int)<(m:Int)):=aE;have hA:=hacc.trans (if_pos h0m);have HA:=Aa hA;clear h0m HP HP0 HJ hacc hA hc8 hc6;go_wp2_with fail;rw[<-HA.o];refine rgE [52,53,54,55,56,57,58,59,60,61,62,63,64,65,66,67,68,69,70,71,3]
      (fun ix v W=>match ix with|0=>v=(acc:List UInt8)|1=>v=.pointer (some ⟨b,0,none⟩)|2=>v=.pointer (some ⟨b,0,none⟩)|3=>v=.pointer (some ⟨b,2,none⟩)|4=>v=.slice (some ⟨b6,o6,none⟩) ps.length c1|5=>v=(m:Int)|6=>v=.pointer (some ⟨b6,o6+m,none⟩)|7=>v=(gm:Int)|8=>v=(Az gm:List UInt8)|9=>v=(acc++Az gm:List UInt8)|10=>v=.string ⟨(acc++(Az gm++[61]):List UInt8).toArray⟩|11=>v=.pointer (some ⟨b,0,none⟩)|12=>v=.pointer (some ⟨b,0,none⟩)|13=>v=.pointer (some ⟨b,3,none⟩)|14=>v=.slice (some ⟨b8,o8,none⟩) xs.length c2|15=>v=(m:Int)|16=>v=.pointer (some ⟨b8,o8+m,none⟩)|17=>v=bm|18=>v=(pm:List UInt8)|19=>v=.string ⟨(acc++(Az gm++61::pm):List UInt8).toArray⟩|20=>v=.string ⟨(acc++(Az gm++61::pm):List UInt8).toArray⟩|_=>True)
      (fun L U W=>Below wr wr W) ((Ay _ _).drew) ?_ ?_
     ·exact fI
     rintro L U W hL hφ hR;have e20:U 20=.string ⟨(acc++(Az gm++61::pm):List UInt8).toArray⟩:=hφ 20 aH;simp only[e20];clear hφ;have Hb9:=Aa (Hbr.o.trans (hR.mono hzr));clear hL hR;go_wp2_with fail;go_roundw
     case rel=>exact⟨m+1,by go_num,by omega,by rw[HPn.o],Hb9.o⟩
     case measure=>simp[intOf];omega
    have t0:0<m:=aE;have t1:(0:Int)<(m:Int):=aE;have hA:=hacc.trans (if_neg h0m);have HA:=Aa hA;clear h0m HP HP0 HJ hacc hA hc8 hc6;go_wp2_with fail;have HA2:=@Aa ((123::(jm++[44]):List UInt8)=acc) HA.o.symm;first|rw[HA2.o]|(simp only[aq];rw[HA2.o])
    refine rgE [52,53,54,55,56,57,58,59,60,61,62,63,64,65,66,67,68,69,70,71,3]
     (fun ix v W=>match ix with|0=>v=(acc:List UInt8)|1=>v=.pointer (some ⟨b,0,none⟩)|2=>v=.pointer (some ⟨b,0,none⟩)|3=>v=.pointer (some ⟨b,2,none⟩)|4=>v=.slice (some ⟨b6,o6,none⟩) ps.length c1|5=>v=(m:Int)|6=>v=.pointer (some ⟨b6,o6+m,none⟩)|7=>v=(gm:Int)|8=>v=(Az gm:List UInt8)|9=>v=(acc++Az gm:List UInt8)|10=>v=.string ⟨(acc++(Az gm++[61]):List UInt8).toArray⟩|11=>v=.pointer (some ⟨b,0,none⟩)|12=>v=.pointer (some ⟨b,0,none⟩)|13=>v=.pointer (some ⟨b,3,none⟩)|14=>v=.slice (some ⟨b8,o8,none⟩) xs.length c2|15=>v=(m:Int)|16=>v=.pointer (some ⟨b8,o8+m,none⟩)|17=>v=bm|18=>v=(pm:List UInt8)|19=>v=.string ⟨(acc++(Az gm++61::pm):List UInt8).toArray⟩|20=>v=.string ⟨(acc++(Az gm++61::pm):List UInt8).toArray⟩|_=>True)
     (fun L U W=>Below wr wr W) ((Ay _ _).drew) ?_ ?_
    ·exact fI
    rintro L U W hL hφ hR;have e20:U 20=.string ⟨(acc++(Az gm++61::pm):List UInt8).toArray⟩:=hφ 20 aH;simp only[e20];clear hφ;have Hb9:=Aa (Hbr.o.trans (hR.mono hzr));clear hL hR;go_wp2_with fail;go_roundw
    case rel=>exact⟨m+1,by go_num,by omega,by rw[HPn.o],Hb9.o⟩
    case measure=>simp[intOf];omega
   ·have em:m=ps.length:=ef;have HE:=Aa (show An 44 ((ps.take m).map fun p=>Au (Cw p))=An 44 (ps.map fun p=>Au (Cw p))by rw[em,List.take_length]);have hjm:(An 44 ((ps.take m).map fun p=>Au (Cw p))).length<=100000000:=by rw[HE.o,B1];exact Hlen.o
    clear em HJ;generalize An 44 ((ps.take m).map fun p=>Au (Cw p))=jm at *;go_wp2_with fail;go_ret;exact⟨by rw[HF.o,<-HE.o];rfl,Hbr.o⟩)
 clear h ht h2 h3 hr1 hr2 hk hkl hkl2 ih Ih Hr1 Hr Hk hl hjl htg;go_enter func22,ntmps22;go_wp2_with fail;refine HN.o.mono ?_;rintro e w3 ⟨rfl,hb3⟩;have Hb3:=Aa hb3;clear hb3;go_wp2_with fail;go_ret;exact⟨rfl,Hb3.o⟩
theorem Qfr{S:List Ty}(hT:∀t∈S,Ed t)(P:Nat->Prop):∀(d:Nat) (k:Kd) (v:Vl),Jq S d k v->C0 k->∀(b:Nat) (w:World),Fh P w b (Cd S k v)->(Au v).length<=100000000->Calls prog 22 #[b] w (E8 (Au v) w):=by
 intro d;induction d with
 |zero=>intro k v h;cases h
 |succ d ih=>
  intro k v h hk b w hw hl;have hkl:=hk.2.2;cases h with
  |@n _ _ m hs hb h=>
   rw[Qbk,show Bi k=[110]by unfold Bi Ca;rw[hs,hb];rfl]at hw;rw[show Au (.mk 110 (Az m) 0 [])=Az m by simp[Au,Cs,Ez]];exact Jh P b 110 _ w (.inl rfl) hw
  |@t _ _ s hs hb h=>
   rw[Yz,show Bi k=[116]by unfold Bi Ca;rw[hs,hb];rfl]at hw;rw[show Au (.mk 116 s 0 [])=39::(s++[39])by simp[Au,Cs,Ez]];exact Jh P b 116 _ w (.inr (.inl rfl)) hw
  |@f _ _ x hs hb=>
   rw[Yp,show Bi k=[102]by unfold Bi Ca;rw[hs,hb];rfl]at hw;rw[show Au (.mk 102 (if x then Ei else Ma) 0 [])=(if x then Ei else Ma)by simp[Au,Cs,Ez]];exact Jh P b 102 _ w (.inr (.inr rfl)) hw
  |@lst _ _ r ks hs hl2 h=>
   have e:Bi k=91::(r++Ca k):=de;rw[Qv,e]at hw;rw[e]at hkl;refine Zp P b _ _ ks w hw cE hl aI fun i hi hi2 b W hW hl3=>?_;rw[List.getElem_map]at hW;exact ih _ _ (h _ (ad hi2)) (Gh hk).1 b W hW hl3
  |@non _ _ r hs=>
   have e:Bi k=63::(r++Ca k):=de;rw[My,e]at hw;rw[e]at hkl;exact Q4 P b _ _ none w hw cE hl rfl aI
  |@som _ _ r x hs h=>
   have e:Bi k=63::(r++Ca k):=de;rw[My,e]at hw;rw[e]at hkl;have hl3:(Au x).length<=100000000:=by have:=hl;simp[Au,Cs,Ez,An]at this;omega
   refine Q4 P b _ _ (some x) w hw cE hl rfl fun y hy b W z hz hW=>?_;injection hy with hy;subst hy;simp at hz;subst hz;exact ih _ _ h (Gh hk).1 b W hW hl3
  |@enm _ _ t f hs hb ht h9 hf=>
   have e:Bi k=64::(k.name++[59]):=cT;rw[Q9,e]at hw;rw[e]at hkl;rw[show Au (.mk 69 [] f.tag [])=35::Az f.tag by simp[Au,Cs,Ez]];exact Zl P b _ f.tag w hw cE ((hT t (Bq ht).1).2.2.1.1 f (Bz hf).2).2.1
  |@uni _ _ t f x hs hb ht h5 hf h=>
   have e:Bi k=64::(k.name++[59]):=cT;rw[Q6,e,Ga ht hf]at hw;rw[e]at hkl;have hkf:=Js hT ht dX (Bz hf).2;have e2:Au (.mk 85 [] f.tag [x])=60::(Az f.tag++61::(Au x++[62])):=by simp[Au,Cs,Ez,An]
   rw[e2]at hl ⊢;have hl3:(Au x).length<=100000000:=by simp at hl;omega
   exact Qal P b _ f.tag _ (Au x) w hw cE hkf.2 hl3 fun b W hW=>ih _ _ h hkf.1 b W hW hl3
  |@rcd _ _ t fs hs hb ht h2 hf h hn hp=>
   have e:Bi k=64::(k.name++[59]):=cT;rw[Qy,e]at hw;rw[e]at hkl;have hkf:=fun p (hp:p∈fs)=>Js hT ht cC (Bz (hf p hp)).2;refine Zf P b _ _ fs w hw cE hl aI (fun p hp=>(hkf p hp).2) fun i hi hi2 b W hW hl3=>?_;have hm:=ad hi2;rw[List.getElem_map,Ga ht (hf _ hm)]at hW;exact ih _ _ (h _ hm) (hkf _ hm).1 b W hW hl3
theorem Qfd{S:List Ty}(hT:∀t∈S,Ed t)(P:Nat->Prop):∀(d:Nat) (k:Kd) (v:Vl),Jq S d k v->C0 k->∀(b:Nat) (w:World),Fh P w b (Cd S k v)->(Au v).length<=1000000->Calls prog 22 #[b] w (E8 (Au v) w):=
 fun d k v h1 h2 b w h3 h4=>Qfr hT P d k v h1 h2 b w h3 (ac h4 aH)
theorem Qcy{S:List Ty}(hT:∀t∈S,Ed t)(P:Nat->Prop):∀(d:Nat) (k:Kd) (v:Vl),H3 S d k v->C0 k->∀(b:Nat) (w:World),Fh P w b (Cd S k v)->(Au v).length<=100000000->Calls prog 22 #[.pointer (some ⟨b,0,none⟩)] w (E8 (Au v) w):=by
 intro d
 induction d with
 |zero=>intro k v h;cases h
 |succ d ih=>
  intro k v h hk b w hw hl
  have hkl:=hk.2.2
  cases h with
  |@n _ _ m hs hb h=>
   rw[Qbk,show Bi k=[110]by unfold Bi Ca;rw[hs,hb];rfl]at hw
   rw[show Au (.mk 110 (Az m) 0 [])=Az m by simp[Au,Cs,Ez]]
   exact Jh P b 110 _ w (.inl rfl) hw
  |@t _ _ s hs hb h=>
   rw[Yz,show Bi k=[116]by unfold Bi Ca;rw[hs,hb];rfl]at hw
   rw[show Au (.mk 116 s 0 [])=39::(s++[39])by simp[Au,Cs,Ez]]
   exact Jh P b 116 _ w (.inr (.inl rfl)) hw
  |@f _ _ x hs hb=>
   rw[Yp,show Bi k=[102]by unfold Bi Ca;rw[hs,hb];rfl]at hw
   rw[show Au (.mk 102 (if x then Ei else Ma) 0 [])=(if x then Ei else Ma)by simp[Au,Cs,Ez]]
   exact Jh P b 102 _ w (.inr (.inr rfl)) hw
  |@lst _ _ r ks hs h=>
   have e:Bi k=91::(r++Ca k):=by unfold Bi;rw[hs];rfl
   rw[Qv,e]at hw
   rw[e]at hkl
   refine Zp P b _ _ ks w hw (by simp at hkl ⊢;omega) hl (by simp) fun i hi hi2 b W hW hl3=>?_
   rw[List.getElem_map]at hW
   exact ih _ _ (h _ (List.getElem_mem hi2)) (Gh hk).1 b W hW hl3
  |@non _ _ r hs=>
   have e:Bi k=63::(r++Ca k):=by unfold Bi;rw[hs];rfl
   rw[My,e]at hw
   rw[e]at hkl
   exact Q4 P b _ _ none w hw (by simp at hkl ⊢;omega) hl rfl (by simp)
  |@som _ _ r x hs h=>
   have e:Bi k=63::(r++Ca k):=by unfold Bi;rw[hs];rfl
   rw[My,e]at hw
   rw[e]at hkl
   have hl3:(Au x).length<=100000000:=by have:=hl;simp[Au,Cs,Ez,An]at this;omega
   refine Q4 P b _ _ (some x) w hw (by simp at hkl ⊢;omega) hl rfl fun y hy b W z hz hW=>?_
   injection hy with hy
   subst hy
   simp at hz
   subst hz
   exact ih _ _ h (Gh hk).1 b W hW hl3
  |@enm _ _ t f hs hb ht h9 hf=>
   have e:Bi k=64::(k.name++[59]):=by unfold Bi Ca;rw[hs,if_pos hb];rfl
   rw[Q9,e]at hw
   rw[e]at hkl
   rw[show Au (.mk 69 [] f.tag [])=35::Az f.tag by simp[Au,Cs,Ez]]
   exact Zl P b _ f.tag w hw (by simp at hkl ⊢;omega) ((hT t (Bq ht).1).2.2.1.1 f (Bz hf).2).2.1
  |@uni _ _ t f x hs hb ht h5 hf h=>
   have e:Bi k=64::(k.name++[59]):=by unfold Bi Ca;rw[hs,if_pos hb];rfl
   rw[Q6,e,Ga ht hf]at hw
   rw[e]at hkl
   have hkf:=Js hT ht (by rw[h5];decide) (Bz hf).2
   have e2:Au (.mk 85 [] f.tag [x])=60::(Az f.tag++61::(Au x++[62])):=by simp[Au,Cs,Ez,An]
   rw[e2]at hl ⊢
   have hl3:(Au x).length<=100000000:=by simp at hl;omega
   exact Qal P b _ f.tag _ (Au x) w hw (by simp at hkl ⊢;omega) hkf.2 hl3 fun b W hW=>ih _ _ h hkf.1 b W hW hl3
  |@rcd _ _ t fs hs hb ht h2 hf h hn hp=>
   have e:Bi k=64::(k.name++[59]):=by unfold Bi Ca;rw[hs,if_pos hb];rfl
   rw[Qy,e]at hw
   rw[e]at hkl
   have hkf:=fun p (hp:p∈fs)=>Js hT ht (by rw[h2];decide) (Bz (hf p hp)).2
   refine Zf P b _ _ fs w hw (by simp at hkl ⊢;omega) hl (by simp) (fun p hp=>(hkf p hp).2) fun i hi hi2 b W hW hl3=>?_
   have hm:=List.getElem_mem hi2
   rw[List.getElem_map,Ga ht (hf _ hm)]at hW
   exact ih _ _ (h _ hm) (hkf _ hm).1 b W hW hl3
theorem Qhg(HNm:∀(w0:World) (xs:List (Ty × Value)) (xv:Value),Mc w0 xv xs->No (Ah xs)->NmC w0 (Ah xs) xv)
  (HPk:∀(w0:World) (xs:List (Ty × Value)) (A:Option Addr) (c:Nat),Mc w0 (.slice A xs.length c) xs->No (Ah xs)->∀k,C0 k->B9 (Ah xs) k->∀x:List UInt8,x.length<=600->Calls prog 20 #[.agg #[.slice A xs.length c],.string ⟨x.toArray⟩,.string ⟨(Bi k).toArray⟩,.int .i64 12] w0 (At (Ah xs) k (Cp (Ah xs) 12 k x) w0))
  (s d x:List UInt8) (w:World) (hs:s.length<=4000000) (hd:d.length<=4000000) (hx:x.length<=4000000):
  Calls prog 10 #[.string ⟨s.toArray⟩,.string ⟨d.toArray⟩,.string ⟨x.toArray⟩] w (T7 (Si (D3 s d) x) w):=by
 have Hk:=Aa (fun W=>Qem s d W hs hd)
 obtain⟨oq,hoq⟩:∃oq,Si (D3 s d) x=oq:=⟨_,rfl⟩
 rw[hoq]
 go_enter func10,ntmps10
 go_wp2_with fail
 refine(Hk.o _).mono ?_
 rintro e w1 ⟨hm,hb1⟩
 have Hb1:=Aa hb1
 clear hb1
 cases hbo:D3 s d with
 |none=>
  have HQ:=Aa (show none=oq by rw[<-hoq,hbo];unfold Si;split<;>rfl)
  rw[hbo]at hm
  obtain⟨A,n,c,rfl⟩:=hm
  clear hbo hoq
  go_wp2_with fail
  refine bodyPost_ret (v:=.tuple #[.string ⟨#[]⟩,.bool false]) (by simp[results,results10,go_sem]) rfl ?_
  rw[<-HQ.o]
  exact⟨rfl,Hb1.o⟩
 |some y=>
  obtain⟨S,k⟩:=y
  rw[hbo]at hm hoq
  obtain⟨xv,xs,rfl,hty,hsc⟩:=hm
  obtain⟨g1,_,_,g4,g5,g6⟩:=P6 hbo
  obtain⟨A9,c9,rfl,hl9,_⟩:=hsc
  have Hsc:=Aa (show Mc w1 (.slice A9 xs.length c9) xs from⟨A9,c9,rfl,hl9,by assumption⟩)
  clear hbo
  by_cases h600:600<x.length
  ·have t5:(600:Int)<(x.length:Int):=by omega
   have HQ:=Aa (show none=oq by rw[<-hoq];unfold Si;rw[if_pos h600])
   clear h600 g1 g4 g5 g6 hoq
   go_wp2_with fail
   refine bodyPost_ret (v:=.tuple #[.string ⟨#[]⟩,.bool false]) (by simp[results,results10,go_sem]) rfl ?_
   rw[<-HQ.o]
   exact⟨rfl,Hb1.o⟩
  have t5:¬((600:Int)<(x.length:Int)):=by omega
  subst hty
  have hr:=HPk w1 xs A9 c9 Hsc.o g1 k g4 g6 x (by omega)
  rw[g5]at hr
  have HR:=Aa hr
  have HQ:=Aa (show ((Cp (Ah xs) 12 k x).bind fun z=>if z.2=[]/\(Pt (Ah xs) k (Au z.1)).isSome=true then some (Au z.1)else none)=oq by rw[<-hoq];unfold Si;rw[if_neg h600];rfl)
  have HL:=Aa (fun v r h=>J9 g1.1.1 12 k g4 x v r h)
  have HB:=Aa (fun(W:World) (hW:Below w1.heap.size w1 W) (y:List UInt8) (hy:y.length<=4000000)=>Qfz (Ah xs) k d y A9 xs.length c9 W hy fun h4=>by
   have:=Qdd w1 (Ah xs) g1.1.1 (.slice A9 xs.length c9) rfl (HNm w1 xs _ Hsc.o g1) 12 (by omega) k g4 y W hW (by omega)
   rw[g5]at this
   exact this)
  have HO:=Aa (fun v h=>Qcy g1.1.1 (fun c=>w1.heap.size<=c) 12 k v h g4)
  generalize Cp (Ah xs) 12 k x=o at *
  clear h600 g1 g4 g5 g6 hr hoq
  go_wp2_with fail
  refine HR.o.mono ?_
  rintro e w5 hp
  obtain⟨vp,vr,vk,rfl,hb5,hm⟩:=hp.q
  have Hb5:=Aa hb5
  have Hw5:=Aa (Hb1.o.trans (hb5.mono Hb1.o.size))
  clear hb5 hp
  cases o with
  |none=>
   obtain⟨⟨q0,rfl⟩,⟨r0,rfl⟩,rfl⟩:=hm
   go_wp2_with fail
   refine bodyPost_ret (v:=.tuple #[.string ⟨#[]⟩,.bool false]) (by simp[results,results10,go_sem]) rfl ?_
   rw[<-HQ.o]
   exact⟨rfl,Hw5.o⟩
  |some y=>
   obtain⟨v,r⟩:=y
   obtain⟨⟨b,rfl,hsv⟩,rfl,rfl⟩:=hm
   obtain⟨hvn,_,hvl⟩:=HL.o v r rfl
   have Ho:=Aa (HO.o v hvn b w5 hsv (by omega))
   have HB:=Aa (fun W hW=>HB.o W hW (Au v) (by omega))
   clear hsv hvn HO HL
   generalize hpv:Au v=pv at *
   have Hpv:=Aa hpv
   clear hvl hpv
   cases r with
   |nil=>
    have hq2:(if (Pt (Ah xs) k pv).isSome=true then some pv else none)=oq:=by rw[<-HQ.o,<-Hpv.o];simp
    have HB:=Aa (fun W hW=>by have h:=HB.o W hW;rw[hq2]at h;exact h)
    clear hq2 HQ Hpv
    go_wp2_with fail
    refine Ho.o.mono ?_
    rintro e w6 ⟨rfl,hb6⟩
    have Hb6:=Aa (Hb5.o.trans (hb6.mono Hb5.o.size))
    have Hw6:=Aa (Hw5.o.trans (hb6.mono Hw5.o.size))
    clear hb6
    go_wp2_with fail
    refine(HB.o _ Hb6.o).mono ?_
    rintro e w7 ⟨rfl,hb7⟩
    have Hw7:=Aa (Hw6.o.trans (hb7.mono Hw6.o.size))
    clear hb7
    go_wp2_with fail
    refine bodyPost_ret (v:=.tuple #[.string ⟨(oq.getD []).toArray⟩,.bool oq.isSome]) (by simp[results,results10,go_sem]) rfl ?_
    exact⟨rfl,Hw7.o⟩
   |cons c z=>
    go_wp2_with fail
    refine bodyPost_ret (v:=.tuple #[.string ⟨#[]⟩,.bool false]) (by simp[results,results10,go_sem]) rfl ?_
    rw[<-HQ.o]
    exact⟨by simp,Hw5.o⟩
def Kv(o:Option (Fd × List UInt8))(s:List UInt8)(w:World)(e:Ending)(w':World):Prop:=
 ∃(n:Nat) (a b c r:List UInt8),e=.returned (.tuple #[.agg #[(n:Int),a,b,c],r,.bool o.isSome])/\Below w w w'/\r.length<=s.length/\n<=1000000000 /\
  ∀f q,o=some (f,q)->n=f.tag/\a=f.name/\b=Bi f.kind/\c=f.given/\r=q
theorem Qhh(fs:List Fd)(s:List UInt8):Fz fs s=if Dy (s.takeWhile Bg) 200 then(match Cn (s.takeWhile Bg)with|some n=>(Bp fs n).map (fun f=>(f,s.dropWhile Bg))|none=>none)else none:=by
 unfold Fz P8 Dy;cases h:Cn (s.takeWhile Bg)with
 |none=>rfl
 |some n=>
  simp only;by_cases hn:n<=200
  ·simp only[hn,if_true,decide_true];cases Bp fs n<;>rfl
  simp[hn]
theorem Tw(xv st nm fv:Value)(hxv:xv.oneCell'=true)(hst:st.oneCell'=true)(hnm:nm.oneCell'=true)(fs:List Fd)(s:List UInt8)(w:World)(h:Fc w fv fs)(htg:∀f∈fs,f.tag<=200)(hs:s.length<=4000000):
  Calls prog 108 #[.agg #[xv],s,.agg #[st,nm,fv]] w (Kv (Fz fs s) s w):=by
 obtain⟨A9,c9,rfl,hl9,hr9⟩:=h;have Hfs:=@Aa (Fc w (.slice A9 fs.length c9) fs) ⟨A9,c9,rfl,hl9,hr9⟩;have HQ:=Aa (Qhh fs s);obtain⟨e1,e2,hle⟩:=J0 Bg s;have Hd:=Aa (fun W=>Sp s W hs);have Hn:=Aa (fun W=>Dn (s.takeWhile Bg) 200 W aE aH);have E1:=Aa e1;have E2:=Aa e2;have k1:((s.takeWhile Bg).length:Int)<=(s.length:Int):=aE;have Hdl:=Aa (show (s.dropWhile Bg).length<=s.length by rw[<-e2];simp);generalize (s.takeWhile Bg).length=n at *;generalize s.takeWhile Bg=tw at *;generalize s.dropWhile Bg=dw at *;have k2:(0:Int)<=(n:Int):=aE;have k3:((n:Int)).toNat=n:=aE;have hn8:n<=4000000:=aE;have Htg:=Aa htg;clear e1 e2 hr9 htg;go_enter func108,ntmps108;go_wp2_with fail;refine(Hd.o _).mono ?_;rintro e w1 ⟨rfl,rfl⟩;go_wp2_with fail;rw[E1.o];refine(Hn.o _).mono ?_;rintro e w2 ⟨m,hm,rfl,hdm,hb2⟩;have Hdm:=Aa hdm;have Hb2:=Aa ((((Ay w.heap.size w).alloc (As _) (.cells #[xv] 35)).alloc aI (.cells #[st,nm,.slice A9 fs.length c9] 95)).alloc aM (.cells #[.int .i64 0,a8,a8,a8] 118) |>.trans (hb2.mono aM));obtain⟨hc2,hfz2,hzz2⟩:=B4 hb2;have hz2:=hb2.size;simp only[World.size_alloc]at hz2;have Hf2:=Aa (fun W (hW:Below w w W)=>Qb5 st nm (.slice A9 fs.length c9) fs m W (Hfs.o.below hW) aE);generalize hok0:Dy tw 200=ok at *;have Hok:=Aa hok0;clear hok0;clear hdm hb2;go_wp2_with fail;refine(Hf2.o _ Hb2.o).mono ?_;rintro e w3 ⟨rfl,hb3⟩;have Hb3:=Aa (Hb2.o.trans (hb3.mono Hb2.o.size));obtain⟨hc3,hfz3,hzz3⟩:=B4 hb3;have hz3:=hb3.size;have hcc:∀b o,b<w.heap.size+3->w3.cell? ⟨b,o,none⟩=w2.cell? ⟨b,o,none⟩:=fun b o h=>hc3 b o aE;clear hb3 Hf2 hzz2 hzz3;obtain⟨n0,a,b,c,is,hsf,hn0,his,hfd⟩:∃(n0:Nat) (a b c:List UInt8) (is:Bool),sfR (Bp fs m)=.tuple #[.agg #[(n0:Int),a,.string ⟨b.toArray⟩,c],.bool is]/\n0<=1000000000/\(Bp fs m).isSome=is/\∀f,Bp fs m=some f->n0=f.tag/\a=f.name/\b=Bi f.kind/\c=f.given:=by
  cases hf:Bp fs m with
  |none=>exact⟨0,[],[],[],false,rfl,by omega,rfl,fun f h=>by cases h⟩
  |some f=>exact⟨f.tag,f.name,Bi f.kind,f.given,true,rfl,by have:=Htg.o f (List.mem_of_find?_eq_some hf);omega,rfl,fun g h=>by injection h with h;subst h;exact⟨rfl,rfl,rfl,rfl⟩⟩
 rw[hsf];have Hfd:=Aa (And.intro his hfd);clear hsf his hfd;go_wp2_with fail;have F0:w3.cell? (w.heap.size+1+1,0)=some (.int .i64 0):=fF;have F1:w3.cell? (w.heap.size+1+1,1)=a8:=fF;have F2:w3.cell? (w.heap.size+1+1,2)=a8:=fF;have F3:w3.cell? (w.heap.size+1+1,3)=a8:=fF;have Z0:w3.frozen? (w.heap.size+1+1,0)=false:=fA;have Z1:w3.frozen? (w.heap.size+1+1,1)=false:=fA;have Z2:w3.frozen? (w.heap.size+1+1,2)=false:=fA;have Z3:w3.frozen? (w.heap.size+1+1,3)=false:=fA;have hb6:w.heap.size+1+1<w3.heap.size:=aE;clear hc2 hfz2 hc3 hfz3 hcc;cases ok with
 |true=>
  refine Sy [29,30,31,32,33,34,35,36,999,7,8]
   (fun ix v W=>match ix with|0=>v=.agg #[(n0:Int),a,.string ⟨b.toArray⟩,c]|1=>v=(s:List UInt8)|2=>v=(n:Int)|3=>v=(dw:List UInt8)|4=>v=.bool true|5=>v=.bool true|6=>v=.bool is|7=>v=.bool is|9=>v=(dw:List UInt8)|10=>v=.bool is|_=>True)
   (fun L U W=>(L 8=false->W=(w3.alloc (.cells #[(n0:Int),a,.string ⟨b.toArray⟩,c] 118)).drew)/\(L 8=true->Below w w W/\W.cell? (w.heap.size+1+1,0)=(n0:Int)/\W.cell? (w.heap.size+1+1,1)=a/\W.cell? (w.heap.size+1+1,2)=some (.string ⟨b.toArray⟩)/\W.cell? (w.heap.size+1+1,3)=c)) (⟨fun _=>rfl,fun h=>Bool.noConfusion h⟩) ?_ ?_
  ·exact fL
  rintro L U W hL hφ hR;have e9:U 9=(dw:List UInt8):=hφ 9 aH;have e10:U 10=.bool is:=hφ 10 aH;clear hφ;obtain⟨Hbw,c0,c1,c2,c3⟩:=hR.2 (hL 8 aH);have HBW:=Aa Hbw;clear hL hR Hbw;simp only[e9,e10];go_wp2_with fail;refine aC (v:=.tuple #[.agg #[(n0:Int),a,.string ⟨b.toArray⟩,c],dw,.bool is]) (by simp[results,results108,go_sem,c0,c1,c2,c3]) rfl ?_;obtain⟨his,hfd⟩:=Hfd.o;have HQ:=HQ.o;have hok:=Hok.o;cases hdm:Cn tw with
  |none=>rw[Mm hdm]at hok;cases hok
  |some m'=>
   rw[hdm]at HQ;simp only[if_true]at HQ;have hm':=Hdm.o m' hdm;subst hm';rw[HQ];refine⟨n0,a,b,c,dw,by rw[Option.isSome_map,his],HBW.o,Hdl.o,hn0,fun f q h=>?_⟩;cases hf:Bp fs m' with
   |none=>rw[hf]at h;cases h
   |some g=>
    rw[hf]at h;injection h with h;injection h with h1 h2;subst h1 h2;obtain⟨q1,q2,q3,q4⟩:=hfd g hf;exact⟨q1,q2,q3,q4,rfl⟩
 |false=>
  refine Sy [29,30,31,32,33,34,35,36,999,7,8]
   (fun ix v W=>match ix with|0=>v=.agg #[(n0:Int),a,.string ⟨b.toArray⟩,c]|1=>v=(s:List UInt8)|2=>v=(n:Int)|3=>v=(dw:List UInt8)|4=>v=.bool false|5=>v=.bool false|7=>v=.bool false|9=>v=(dw:List UInt8)|10=>v=.bool false|_=>True)
   (fun L U W=>(L 8=false->W=(w3.alloc (.cells #[(n0:Int),a,.string ⟨b.toArray⟩,c] 118)).drew)/\(L 8=true->Below w w W/\W.cell? (w.heap.size+1+1,0)=(n0:Int)/\W.cell? (w.heap.size+1+1,1)=a/\W.cell? (w.heap.size+1+1,2)=some (.string ⟨b.toArray⟩)/\W.cell? (w.heap.size+1+1,3)=c)) (⟨fun _=>rfl,fun h=>Bool.noConfusion h⟩) ?_ ?_
  ·exact fL
  rintro L U W hL hφ hR;have e9:U 9=(dw:List UInt8):=hφ 9 aH;have e10:U 10=.bool false:=hφ 10 aH;clear hφ;obtain⟨Hbw,c0,c1,c2,c3⟩:=hR.2 (hL 8 aH);have HBW:=Aa Hbw;clear hL hR Hbw;simp only[e9,e10];go_wp2_with fail;refine aC (v:=.tuple #[.agg #[(n0:Int),a,.string ⟨b.toArray⟩,c],dw,.bool false]) (by simp[results,results108,go_sem,c0,c1,c2,c3]) rfl ?_;obtain⟨his,hfd⟩:=Hfd.o;have HQ:=HQ.o;have hok:=Hok.o;simp only[ak,if_false]at HQ;rw[HQ];exact⟨n0,a,b,c,dw,rfl,HBW.o,Hdl.o,hn0,fun f q h=>by cases h⟩
end
def enL(o:Option (Fd × List UInt8)):Option (Vl × List UInt8):=match o with|some (f,q)=>some (.mk 69 [] f.tag [],q)|none=>none
def unL(R:Kd->List UInt8->Option (Vl × List UInt8))(o:Option (Fd × List UInt8)):Option (Vl × List UInt8):=match o with
 |none=>none
 |some (f,r)=>match Ae 61 r with
  |none=>none
  |some q=>match R f.kind q with
   |none=>none
   |some (v,q)=>match Ae 62 q with|some z'=>some (.mk 85 [] f.tag [v],z')|none=>none
def StF(o:Option (Fd × List UInt8))(s:List UInt8)(n:Nat)(a b c r:List UInt8):Prop:=
 r.length<=s.length/\n<=1000000000/\∀f q,o=some (f,q)->n=f.tag/\a=f.name/\b=Bi f.kind/\c=f.given/\r=q
theorem Kv.q{o:Option (Fd × List UInt8)}{s:List UInt8}{w w':World}{e:Ending}(h:Kv o s w e w'):∃(n:Nat) (a b c r:List UInt8),e=.returned (.tuple #[.agg #[(n:Int),a,b,c],r,.bool o.isSome])/\StF o s n a b c r/\Below w w w':=by
 obtain⟨n,a,b,c,r,h1,h2,h3,h4,h5⟩:=h;exact⟨n,a,b,c,r,h1,⟨h3,h4,h5⟩,h2⟩
structure Gt(w1:World)(o:Option (Fd × List UInt8))(s:List UInt8)(l m x y z al st p q:Bool)(ul um ux uy uz ual up uq:Value)(W:World):Prop where
 be:Below w1 w1 W
 yes:l=true->∃(n:Nat) (a b c r:List UInt8),StF o s n a b c r/\ul=.tuple #[.agg #[(n:Int),a,b,c],r,.bool o.isSome] /\
  (m=true->um=.tuple #[.agg #[(n:Int),a,b,c],r,.bool o.isSome]) /\
  (x=true->ux=.agg #[(n:Int),a,b,c])/\(y=true->uy=r)/\(z=true->uz=.bool o.isSome)/\(p=true->up=r)/\(q=true->uq=.bool o.isSome)
 al:al=true->∃B,ual=.pointer (some ⟨B,0,none⟩)/\w1.heap.size<=B/\B<W.heap.size/\W.there B 0 4/\(st=true->∃cs:List Value,ux=.agg cs.toArray/\W.rangeAt B 0 cs)
section
variable {w1 W W':World} {o:Option (Fd × List UInt8)} {s:List UInt8} {l m x y z al st p q:Bool} {ul um ux uy uz ual up uq:Value} {n:Nat} {a b c r:List UInt8} {B:Nat}
theorem Gt.start:Gt w1 o s false m x y z false st p q ul um ux uy uz ual up uq w1:=⟨Ay _ _,fun h=>Bool.noConfusion h,fun h=>Bool.noConfusion h⟩
theorem Gt.call(h:Gt w1 o s l m x y z al st p q ul um ux uy uz ual up uq W)(hm:m=false)(hx:x=false)(hy:y=false)(hz:z=false)(hst:st=false)(hp:p=false)(hq:q=false)(hF:StF o s n a b c r)(hb:Below W W W'):
  Gt w1 o s true m x y z al st p q (.tuple #[.agg #[(n:Int),a,b,c],r,.bool o.isSome]) um ux uy uz ual up uq W':=by
 subst hm hx hy hz hst hp hq;refine⟨h.be.trans (hb.mono h.be.size),fun _=>⟨n,a,b,c,r,hF,rfl,fun h=>Bool.noConfusion h,fun h=>Bool.noConfusion h,fun h=>Bool.noConfusion h,fun h=>Bool.noConfusion h,fun h=>Bool.noConfusion h,fun h=>Bool.noConfusion h⟩,fun ha=>?_⟩;obtain⟨B,h1,h2,h3,h4,_⟩:=h.al ha;exact⟨B,h1,h2,ab h3 hb.size,Bt h4 h3 hb,fun h=>Bool.noConfusion h⟩
theorem Gt.move(h:Gt w1 o s l m x y z al st p q ul um ux uy uz ual up uq W)(hl:l=true):Gt w1 o s l true x y z al st p q ul ul ux uy uz ual up uq W:=
 ⟨h.be,fun hl=>by obtain⟨n,a,b,c,r,h1,h2,_,h4⟩:=h.yes hl;exact⟨n,a,b,c,r,h1,h2,fun _=>h2,h4⟩,h.al⟩
theorem Gt.get(h:Gt w1 o s l m x y z al st p q ul um ux uy uz ual up uq W)(hl:l=true)(hm:m=true)(hst:x=false->st=false):∃(n:Nat) (a b c r:List UInt8),um=.tuple #[.agg #[(n:Int),a,b,c],r,.bool o.isSome] /\
  (x=false->Gt w1 o s l m true y z al st p q ul um (.agg #[(n:Int),a,b,c]) uy uz ual up uq W)/\Gt w1 o s l m x true z al st p q ul um ux r uz ual up uq W/\Gt w1 o s l m x y true al st p q ul um ux uy (.bool o.isSome) ual up uq W:=by
 obtain⟨n,a,b,c,r,h1,h2,h3,h4,h5,h6,h7⟩:=h.yes hl;refine⟨n,a,b,c,r,h3 hm,fun hx=>⟨h.be,fun _=>⟨n,a,b,c,r,h1,h2,h3,fun _=>rfl,h5,h6,h7⟩,fun ha=>?_⟩,⟨h.be,fun _=>⟨n,a,b,c,r,h1,h2,h3,h4,fun _=>rfl,h6,h7⟩,h.al⟩,⟨h.be,fun _=>⟨n,a,b,c,r,h1,h2,h3,h4,h5,fun _=>rfl,h7⟩,h.al⟩⟩;obtain⟨B,g1,g2,g3,g4,_⟩:=h.al ha;exact⟨B,g1,g2,g3,g4,fun hs=>absurd ((hst hx).symm.trans hs) aH⟩
theorem Gt.as1(h:Gt w1 o s l m x y z al st p q ul um ux uy uz ual up uq W)(hy:y=true):Gt w1 o s l m x y z al st true q ul um ux uy uz ual uy uq W:=
 ⟨h.be,fun hl=>by obtain⟨n,a,b,c,r,h1,h2,h3,h4,h5,h6,_,h7⟩:=h.yes hl;exact⟨n,a,b,c,r,h1,h2,h3,h4,h5,h6,fun _=>h5 hy,h7⟩,h.al⟩
theorem Gt.as2(h:Gt w1 o s l m x y z al st p q ul um ux uy uz ual up uq W)(hz:z=true):Gt w1 o s l m x y z al st p true ul um ux uy uz ual up uz W:=
 ⟨h.be,fun hl=>by obtain⟨n,a,b,c,r,h1,h2,h3,h4,h5,h6,h7,_⟩:=h.yes hl;exact⟨n,a,b,c,r,h1,h2,h3,h4,h5,h6,h7,fun _=>h6 hz⟩,h.al⟩
theorem Gt.alloc(h:Gt w1 o s l m x y z al st p q ul um ux uy uz ual up uq W)(hst:st=false)(T:TypeId):Gt w1 o s l m x y z true st p q ul um ux uy uz W.heap.size up uq (W.alloc (.cells #[.int .i64 0,a8,a8,a8] T)):=
 ⟨h.be.alloc h.be.size _,h.yes,fun _=>⟨_,rfl,h.be.size,by simp,D2 W [.int .i64 0,a8,a8,a8] T,fun h=>absurd (hst.symm.trans h) aH⟩⟩
theorem Gt.store(h:Gt w1 o s l m x y z al st p q ul um ux uy uz ual up uq W)(ha:al=true)(ex:ux=.agg #[(n:Int),a,b,c])(el:ual=B):
  W.there B 0 4/\Gt w1 o s l m x y z al true p q ul um ux uy uz ual up uq (W.setCells B 0 [(n:Int),a,b,c]):=by
 obtain⟨B',g1,g2,g3,g4,_⟩:=h.al ha;rw[el]at g1;injection g1 with g1;injection g1 with g1;injection g1 with g1;subst g1;exact⟨g4,Aw _ g2 _ _ _ h.be,h.yes,fun _=>⟨B,el,g2,by rw[Cm];exact g3,ah g4 _ _ _,fun _=>⟨_,ex,aa _ _ _ _ g4⟩⟩⟩
theorem Gt.fin(h:Gt w1 o s l m x y z al st p q ul um ux uy uz ual up uq W)(hl:l=true)(hx:x=true)(ha:al=true)(hs:st=true)(hp:p=true)(hq:q=true):
  ∃(n:Nat) (a b c r:List UInt8) (B:Nat),StF o s n a b c r/\ual=.pointer (some ⟨B,0,none⟩)/\up=.string ⟨r.toArray⟩/\uq=.bool o.isSome/\w1.heap.size<=B/\B<W.heap.size/\W.rangeAt B 0 [.int .i64 (n:Int),.string ⟨a.toArray⟩,.string ⟨b.toArray⟩,.string ⟨c.toArray⟩]/\Below w1.heap.size w1 W:=by
 obtain⟨n,a,b,c,r,h1,h2,h3,h4,h5,h6,h7,h8⟩:=h.yes hl;obtain⟨B,g1,g2,g3,g4,g5⟩:=h.al ha;obtain⟨cs,e1,e2⟩:=g5 hs;have e3:=h4 hx;rw[e1]at e3;injection e3 with e3;have e4:cs=[.int .i64 (n:Int),.string ⟨a.toArray⟩,.string ⟨b.toArray⟩,.string ⟨c.toArray⟩]:=by simpa using e3
 exact⟨n,a,b,c,r,B,h1,g1,h7 hp,h8 hq,g2,g3,e4 ▸ e2,h.be⟩
end
section
variable {Q:World->Value->Value->Value->Prop} {w1 W W':World} {l m x y z a b e:Bool} {ul um ux uy uz ua ub ue vp vr vk:Value}
theorem Fw.call(hm:m=false)(hx:x=false)(hy:y=false)(hz:z=false)(ha:a=false)(hb:b=false)(he:e=false)(h:Q W vp vr vk):Fw Q w1 true m x y z a b e (.tuple #[vp,vr,vk]) um ux uy uz ua ub ue W:=by
 subst hm hx hy hz ha hb he;exact⟨fun h=>Bool.noConfusion h,fun _=>⟨vp,vr,vk,h,rfl,fun h=>Bool.noConfusion h,fun h=>Bool.noConfusion h,fun h=>Bool.noConfusion h,fun h=>Bool.noConfusion h,fun h=>Bool.noConfusion h,fun h=>Bool.noConfusion h,fun h=>Bool.noConfusion h⟩⟩
theorem Fw.call2(hx:x=false)(hy:y=false)(hz:z=false)(ha:a=false)(hb:b=false)(he:e=false)(h:Q W vp vr vk):Fw Q w1 true true x y z a b e (.tuple #[vp,vr,vk]) (.tuple #[vp,vr,vk]) ux uy uz ua ub ue W:=by
 subst hx hy hz ha hb he;exact⟨fun h=>Bool.noConfusion h,fun _=>⟨vp,vr,vk,h,rfl,fun _=>rfl,fun h=>Bool.noConfusion h,fun h=>Bool.noConfusion h,fun h=>Bool.noConfusion h,fun h=>Bool.noConfusion h,fun h=>Bool.noConfusion h,fun h=>Bool.noConfusion h⟩⟩
theorem Fw.move(h:Fw Q w1 l m x y z a b e ul um ux uy uz ua ub ue W)(hl:l=true):Fw Q w1 l true x y z a b e ul ul ux uy uz ua ub ue W:=
 ⟨h.no,fun hl=>by obtain⟨p,r,k,h1,h2,_,h3⟩:=h.yes hl;exact⟨p,r,k,h1,h2,fun _=>h2,h3⟩⟩
theorem Fw.get(h:Fw Q w1 l m x y z a b e ul um ux uy uz ua ub ue W)(hl:l=true)(hm:m=true):∃vp vr vk,um=.tuple #[vp,vr,vk]/\Fw Q w1 l m true y z a b e ul um vp uy uz ua ub ue W/\Fw Q w1 l m x true z a b e ul um ux vr uz ua ub ue W/\Fw Q w1 l m x y true a b e ul um ux uy vk ua ub ue W:=by
 obtain⟨p,r,k,h1,h2,h3,h4,h5,h6,h7⟩:=h.yes hl;exact⟨p,r,k,h3 hm,⟨h.no,fun _=>⟨p,r,k,h1,h2,h3,fun _=>rfl,h5,h6,h7⟩⟩,⟨h.no,fun _=>⟨p,r,k,h1,h2,h3,h4,fun _=>rfl,h6,h7⟩⟩,⟨h.no,fun _=>⟨p,r,k,h1,h2,h3,h4,h5,fun _=>rfl,h7⟩⟩⟩
theorem Fw.as0(h:Fw Q w1 l m x y z a b e ul um ux uy uz ua ub ue W)(hx:x=true):Fw Q w1 l m x y z true b e ul um ux uy uz ux ub ue W:=
 ⟨h.no,fun hl=>by obtain⟨p,r,k,h1,h2,h3,h4,h5,h6,_,h8,h9⟩:=h.yes hl;exact⟨p,r,k,h1,h2,h3,h4,h5,h6,fun _=>h4 hx,h8,h9⟩⟩
theorem Fw.as1(h:Fw Q w1 l m x y z a b e ul um ux uy uz ua ub ue W)(hy:y=true):Fw Q w1 l m x y z a true e ul um ux uy uz ua uy ue W:=
 ⟨h.no,fun hl=>by obtain⟨p,r,k,h1,h2,h3,h4,h5,h6,h7,_,h9⟩:=h.yes hl;exact⟨p,r,k,h1,h2,h3,h4,h5,h6,h7,fun _=>h5 hy,h9⟩⟩
theorem Fw.as2(h:Fw Q w1 l m x y z a b e ul um ux uy uz ua ub ue W)(hz:z=true):Fw Q w1 l m x y z a b true ul um ux uy uz ua ub uz W:=
 ⟨h.no,fun hl=>by obtain⟨p,r,k,h1,h2,h3,h4,h5,h6,h7,h8,_⟩:=h.yes hl;exact⟨p,r,k,h1,h2,h3,h4,h5,h6,h7,h8,fun _=>h6 hz⟩⟩
theorem Fw.fin(h:Fw Q w1 l m x y z a b e ul um ux uy uz ua ub ue W)(hl:l=true)(ha:a=true)(hb:b=true)(he:e=true):∃vp vr vk,Q W vp vr vk/\ua=vp/\ub=vr/\ue=vk:=by
 obtain⟨p,r,k,h1,_,_,_,_,_,h7,h8,h9⟩:=h.yes hl;exact⟨p,r,k,h1,h7 ha,h8 hb,h9 he⟩
end
structure Fo(w1:World)(kb:List UInt8)(n x:Nat)(l3 l5 l6 l7 l10:Bool)(u3 u5 u6 u7 u10:Value)(W:World):Prop where
 be:Below w1 w1 W
 a3:l3=true->∃B,u3=.slice (some ⟨B,0,none⟩) 1 1/\w1.heap.size<=B/\B<W.heap.size/\W.cell? ⟨B,0,none⟩=(n:Int)
 a5:l5=true->∃B,u5=.slice (some ⟨B,0,none⟩) 1 1/\w1.heap.size<=B/\B<W.heap.size/\W.cell? ⟨B,0,none⟩=x
 a6:l6=true->l3=true/\l5=true/\u6=.agg #[kb,.string ⟨#[85]⟩,u3,u5]
 a7:l7=true->l3=true/\l5=true/\∃B,u7=.pointer (some ⟨B,0,none⟩)/\w1.heap.size<=B/\B<W.heap.size/\W.cell? ⟨B,0,none⟩=kb/\W.cell? ⟨B,1,none⟩=some (.string ⟨#[85]⟩)/\W.cell? ⟨B,2,none⟩=some u3/\W.cell? ⟨B,3,none⟩=some u5
 a10:l10=true->u10=u7
section
variable {w1 W:World} {kb:List UInt8} {n x:Nat} {l3 l5 l6 l7 l10:Bool} {u3 u5 u6 u7 u10:Value}
theorem Fb{w:World}{b o:Nat}{v:Value}{B:Obj}(hb:b<w.heap.size)(h:w.cell? ⟨b,o,none⟩=some v):(w.alloc B).cell? ⟨b,o,none⟩=some v:=
 ((Ay w.heap.size w).alloc (As _) B |>.cell (p:=⟨b,o,none⟩) hb).trans h
theorem Fo.start:Fo w1 kb n x false false false false false u3 u5 u6 u7 u10 w1:=
 ⟨Ay _ _,fun h=>Bool.noConfusion h,fun h=>Bool.noConfusion h,fun h=>Bool.noConfusion h,fun h=>Bool.noConfusion h,fun h=>Bool.noConfusion h⟩
theorem Fo.grow(h:Fo w1 kb n x l3 l5 l6 l7 l10 u3 u5 u6 u7 u10 W)(B:Obj):Fo w1 kb n x l3 l5 l6 l7 l10 u3 u5 u6 u7 u10 (W.alloc B):=by
 refine⟨h.be.alloc h.be.size _,fun q=>?_,fun q=>?_,h.a6,fun q=>?_,h.a10⟩
 ·obtain⟨b,e,h1,h2,h3⟩:=h.a3 q;exact⟨b,e,h1,by simp;omega,Fb h2 h3⟩
 ·obtain⟨b,e,h1,h2,h3⟩:=h.a5 q;exact⟨b,e,h1,by simp;omega,Fb h2 h3⟩
 obtain⟨q3,q5,b,e,h1,h2,c0,c1,c2,c3⟩:=h.a7 q;exact⟨q3,q5,b,e,h1,by simp;omega,Fb h2 c0,Fb h2 c1,Fb h2 c2,Fb h2 c3⟩
theorem Fo.put3(h:Fo w1 kb n x l3 l5 l6 l7 l10 u3 u5 u6 u7 u10 W)(h6:l6=false)(h7:l7=false)(T:TypeId):Fo w1 kb n x true l5 l6 l7 l10 (.slice (W,0) 1 1) u5 u6 u7 u10 (W.alloc (.cells #[(n:Int)] T)):=by
 have g:=h.grow (.cells #[(n:Int)] T);exact⟨g.be,fun _=>⟨_,rfl,h.be.size,by simp,by simp[go_sem]⟩,g.a5,fun q=>absurd (h6.symm.trans q) aH,fun q=>absurd (h7.symm.trans q) aH,g.a10⟩
theorem Fo.put5(h:Fo w1 kb n x l3 l5 l6 l7 l10 u3 u5 u6 u7 u10 W)(h6:l6=false)(h7:l7=false)(T:TypeId):Fo w1 kb n x l3 true l6 l7 l10 u3 (.slice (W,0) 1 1) u6 u7 u10 (W.alloc (.cells #[x] T)):=by
 have g:=h.grow (.cells #[x] T);exact⟨g.be,g.a3,fun _=>⟨_,rfl,h.be.size,by simp,by simp[go_sem]⟩,fun q=>absurd (h6.symm.trans q) aH,fun q=>absurd (h7.symm.trans q) aH,g.a10⟩
theorem Fo.put6(h:Fo w1 kb n x l3 l5 l6 l7 l10 u3 u5 u6 u7 u10 W)(h3:l3=true)(h5:l5=true){u:Value}(hu:u=.agg #[kb,.string ⟨#[85]⟩,u3,u5]):Fo w1 kb n x l3 l5 true l7 l10 u3 u5 u u7 u10 W:=
 ⟨h.be,h.a3,h.a5,fun _=>⟨h3,h5,hu⟩,h.a7,h.a10⟩
theorem Fo.put7(h:Fo w1 kb n x l3 l5 l6 l7 l10 u3 u5 u6 u7 u10 W)(h6:l6=true)(h10:l10=false){T:TypeId}{W':World}(hW:W'=W.alloc (.cells #[kb,.string ⟨#[85]⟩,u3,u5] T)):Fo w1 kb n x l3 l5 l6 true l10 u3 u5 u6 W.heap.size u10 W':=by
 subst hW;have g:=h.grow (.cells #[kb,.string ⟨#[85]⟩,u3,u5] T);obtain⟨h3,h5,_⟩:=h.a6 h6;exact⟨g.be,g.a3,g.a5,g.a6,fun _=>⟨h3,h5,_,rfl,h.be.size,by simp,by simp[go_sem],by simp[go_sem],by simp[go_sem],by simp[go_sem]⟩,fun q=>absurd (h10.symm.trans q) aH⟩
theorem Fo.put10(h:Fo w1 kb n x l3 l5 l6 l7 l10 u3 u5 u6 u7 u10 W):Fo w1 kb n x l3 l5 l6 l7 true u3 u5 u6 u7 u7 W:=⟨h.be,h.a3,h.a5,h.a6,h.a7,fun _=>rfl⟩
theorem Fo.fin(h:Fo w1 kb n x l3 l5 l6 l7 l10 u3 u5 u6 u7 u10 W)(h7:l7=true)(h10:l10=true){lo:Nat}(hlo:lo<=w1.heap.size){y:SV}(hy:Fh (fun c=>lo<=c) w1 x y):∃B,u10=.pointer (some ⟨B,0,none⟩)/\Fh (fun c=>lo<=c) W B (.mk kb [85] [n] [y]):=by
 obtain⟨h3,h5,B,e,h1,h2,c0,c1,c2,c3⟩:=h.a7 h7;obtain⟨B3,e3,p1,p2,p3⟩:=h.a3 h3;obtain⟨B5,e5,r1,r2,r3⟩:=h.a5 h5;refine⟨B,(h.a10 h10).trans e,?_⟩;rw[e3]at c2;rw[e5]at c3;refine .mk kb [85] [n] (B3,0) (B5,0) 1 1 [(x,y)] rfl h2 (ac hlo h1) c0 c1 c2 c3 ⟨rfl,by simp[maxLen],fun _=>⟨B3,0,rfl,p2,fun j u hu=>?_⟩⟩ ⟨rfl,by simp[maxLen],fun _=>⟨B5,0,rfl,r2,fun j u hu=>?_⟩⟩ aI aI (fun g o _ e=>?_) (fun g o _ e=>?_) (fun p hp=>?_)
 ·match j,hu with
  |0,hu=>simp[B6]at hu;subst hu;simpa using p3
  |j+1,hu=>simp[B6]at hu
 ·match j,hu with
  |0,hu=>simp[Cy]at hu;subst hu;simpa using r3
  |j+1,hu=>simp[Cy]at hu
 ·injection e with e;injection e with e;subst e;omega
 ·injection e with e;injection e with e;subst e;omega
 simp at hp;subst hp;exact hy.after h.be
end
end Go.Proofs.YtkigmebejmmikaaGreatDoor
