/- Texts joined. Conditions: as each theorem names them. -/
import Derived.Test.YtmmhmlmfhpfgbaaGreatDoorF05
set_option maxRecDepth 100000
set_option maxHeartbeats 32000000
set_option linter.unusedVariables false
set_option linter.unusedSimpArgs false
namespace Go.Proofs.YtmmhmlmfhpfgbaaGreatDoor
open Go.RowKit Go.Proofs.Tryz
section
attribute [local go_sem] Qoe Qnf Qmu Qk2 ByteArray.mk_append_mk
theorem Qg8(s a b d:List UInt8)(w:World)(hs:s.length<=1000)(hp:Al 58 s=[a,b,d])(n0:Nat)(ho:Ef a 200=true)(hd:Cx a=some n0)(h1:1<=n0)(h2:n0<=200)(hnm:Be b=true)(k v:List UInt8)(hq:Al 61 d=[k,v]):
  Calls prog 203 #[s,.int .u8 85] w (C7 (Ce 85 s) w):=by
 have hal:=Aq 58 s a bz;have hbl:=Aq 58 s b bz;have hdl:=Aq 58 s d bz;have hF:Ce 85 s=En 85 a b d:=Eo aJ hp;have Hcut:=Aa (fun W=>Cw s 58 58 rfl W aH);rw[hp]at Hcut;have Hnum:=Aa (fun W=>D1 a 200 W aH aH);have Hname:=Aa (fun W=>Cv b W aH);clear hp;have hkl:=Aq 61 d k dG;have hvl:=Aq 61 d v dG;rw[Vy (Mj hd h1 h2 hnm) hq]at hF;rw[if_neg (fun h=>absurd h.1 aJ)]at hF;have HF:=Aa hF;have Ho:=Aa ho;have Hd:=Aa hd;have Hnm:=Aa hnm;have Hcut2:=Aa (fun W=>Cw d 61 61 rfl W aH);rw[hq]at Hcut2;clear hF ho hd hnm hq;go_enter func203,ntmps203;go_wp2_with fail;refine(Hcut.o _).mono ?_;rintro e w1 ⟨v,rfl,ho,hb⟩;obtain⟨g,c,rfl,hg1,hg2,c0,c1,c2⟩:=Jb ho;simp at hg1;obtain⟨hc,hfz,hz⟩:=Cj hb;have Hb:=Aa (((Ao w.heap.size w).alloc (An _) _).trans (hb.mono aK));have hzz:=hz w.heap.size aK;clear hb ho;go_wp2_with fail;refine(Hnum.o _).mono ?_;rintro e w2 ⟨n,hn,rfl,hdn,hb2⟩;rw[Ho.o];obtain⟨hc2,hfz2,hz2⟩:=Cj hb2;have Hb2:=Aa (Hb.o.trans (hb2.mono Hb.o.size));have hsz:=Hb2.o.size;have hz3:=hz2 _ hzz;clear hb2;obtain rfl:=hdn n0 Hd.o;clear hdn;go_wp2_with fail;refine(Hname.o _).mono ?_;rintro e w3 ⟨rfl,rfl⟩;rw[Hnm.o];go_wp2_with fail;refine(Hcut2.o _).mono ?_;rintro e w4 ⟨v4,rfl,ho4,hb4⟩;obtain⟨g4,c4,rfl,hg4,hg5,c40,c41⟩:=Pt ho4;obtain⟨hc4,hfz4,hz4⟩:=Cj hb4;have hzb:=hz4 w.heap.size (Nat.lt_trans hz3 aK);have hzf:=hz4 w2.heap.size aK;have Hb4:=Aa ((Hb2.o.alloc hsz _).trans (hb4.mono (ad hsz aK)));have u0:w4.cell? (w,0)=some (.int .i64 0):=gG;have u1:w4.cell? (w,1)=a6:=gH;have u2:w4.cell? (w,2)=a6:=gI;have u3:w4.cell? (w,3)=a6:=gJ;have d0:w4.cell? (w2,0)=(n0:Int):=gS;have d1:w4.cell? (w2,1)=b:=gT;have d2:w4.cell? (w2,2)=a6:=gU;have d3:w4.cell? (w2,3)=a6:=gV;have f1:∀j,w4.frozen? ⟨w.heap.size,j,none⟩=false:=fun j=>gF;have f2:∀j,w4.frozen? ⟨w2.heap.size,j,none⟩=false:=fun j=>gN;clear hb4 ho4 hc hc2 hc4 hfz hfz2 hfz4 hz hz2 hz4;have hn1:¬(w2.heap.size=w.heap.size):=aH;have hn2:¬(w.heap.size=w2.heap.size):=aH;have hn3:¬(w4.heap.size=w.heap.size):=aH;have hn4:¬(w.heap.size=w4.heap.size):=aH;go_wp2_with fail;generalize hW0:(w4.setCell ⟨w2.heap.size,2,none⟩ k).setCell ⟨w2.heap.size,3,none⟩ v=W0;have e0:W0.cell? (w2,0)=(n0:Int):=dQ;have e1:W0.cell? (w2,1)=b:=dR;have e2:W0.cell? (w2,2)=k:=dr;have e3:W0.cell? (w2,3)=v:=du;have v0:W0.cell? (w,0)=some (.int .i64 0):=dj;have v1:W0.cell? (w,1)=a6:=dk;have v2:W0.cell? (w,2)=a6:=dl;have v3:W0.cell? (w,3)=a6:=dm;have g1:∀j,W0.frozen? ⟨w.heap.size,j,none⟩=false:=fun j=>dS;have y1:w.heap.size<W0.heap.size:=dN;have Hb5:Below w w W0:=by
  rw[<-hW0];(repeat (first|exact Hb4.o|refine Below.setCell ?_ aO _|refine Below.alloc ?_ aO _|refine Below.drew ?_))
 have Hb5:=Aa Hb5;clear hW0 u0 u1 u2 u3 d0 d1 d2 d3 f1 f2 Hb4 hzb hzf;refine Jf [73,74,75,76,77,78,79,80,81,82,999,5] aN aN aN (fun u=>by dsimp only[Bt,Bq,List.set])
  (fun i x W=>x=[.agg #[.int .i64 n0,.string ⟨b.toArray⟩,.string ⟨k.toArray⟩,.string ⟨v.toArray⟩],.int .u8 85,.bool false,.bool false,undef,undef,undef,undef,undef,.bool false,undef,.bool false][i]?.getD undef)
  (fun L W=>W=if L 10=true then(((W0.drew.setCell ⟨w.heap.size,0,none⟩ (.int .i64 n0)).setCell ⟨w.heap.size,1,none⟩ b).setCell ⟨w.heap.size,2,none⟩ k).setCell ⟨w.heap.size,3,none⟩ v else W0.drew) (fun _ _=>True) (fun _ _ _ _ _ h=>h) rfl ?_ ?_
 ·repeat (first|exact Ak.nil|(refine Ak.cons ?_ ?_;rotate_left))
  all_goals
   rintro L u W hL hpre hR K hK;first|(simp[Region.binds]at hpre;done)|simp[Region.binds]at hpre|clear hpre
   rcases hl:L 10 with _|_;all_goals
    first|exact absurd (hl.symm.trans hL) aJ|(
     rw[hl]at hR;first|rw[if_neg aJ]at hR|rw[if_pos rfl]at hR
     have hR':=hR.symm;subst hR';go_simp;first|(refine hK _ _ _ rfl Ac co rfl;done)|(refine hK _ _ _ rfl Ac co aI;done)|(refine hK undef _ _ rfl Ac co aI;done))
 rintro L u W hL hφ hR;have c11:=hφ 11 aJ;simp at c11;simp only[c11];rw[if_pos (hL 10 aJ)]at hR;subst hR;go_wp2_with fail;refine aF (v:=.tuple #[.agg #[.int .i64 n0,b,k,v],.bool false]) (by simp[results,results203,go_sem,g1,y1,v0,v1,v2,v3]) rfl ?_;exact C7.no HF.o rfl bc
end
end Go.Proofs.YtmmhmlmfhpfgbaaGreatDoor
