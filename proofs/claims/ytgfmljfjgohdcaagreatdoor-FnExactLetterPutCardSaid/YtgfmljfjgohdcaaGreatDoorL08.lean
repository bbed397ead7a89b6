/- Texts joined. Conditions: as each theorem names them. -/
import Derived.Test.YtgfmljfjgohdcaaGreatDoorL07
set_option maxRecDepth 100000
set_option maxHeartbeats 32000000
set_option linter.unusedVariables false
set_option linter.unusedSimpArgs false
namespace Go.Proofs.YtgfmljfjgohdcaaGreatDoor
open Go.RowKit Go.Proofs.Tryz
section
attribute [local go_sem] Qls Qkr Qj4 Qig ByteArray.mk_append_mk
theorem Qey(s a b d:List UInt8)(w:World)(hs:s.length<=1000)(hp:Ai 58 s=[a,b,d])(n0:Nat)(ho:Do a 200=true)(hd:Cg a=some n0)(h1:1<=n0)(h2:n0<=200)(hnm:At b=true)(k v:List UInt8)(hq:Ai 61 d=[k,v]):
  Calls prog 218 #[s,.int .u8 85] w (Cp (Bt 85 s) w):=by
 have hal:=Ak 58 s a bj;have hbl:=Ak 58 s b bj;have hdl:=Ak 58 s d bj;have hF:Bt 85 s=D3 85 a b d:=D2 aI hp;have Hcut:=Aa (fun W=>Cl s 58 58 rfl W aF);rw[hp]at Hcut;have Hnum:=Aa (fun W=>C9 a 200 W aF aF);have Hname:=Aa (fun W=>Ck b W aF);clear hp;have hkl:=Ak 61 d k db;have hvl:=Ak 61 d v db;rw[Rx (Jz hd h1 h2 hnm) hq]at hF;rw[if_neg (fun h=>absurd h.1 aI)]at hF;have HF:=Aa hF;have Ho:=Aa ho;have Hd:=Aa hd;have Hnm:=Aa hnm;have Hcut2:=Aa (fun W=>Cl d 61 61 rfl W aF);rw[hq]at Hcut2;clear hF ho hd hnm hq;go_enter func218,ntmps218;go_wp2_with fail;refine(Hcut.o _).mono ?_;rintro e w1 ⟨v,rfl,ho,hb⟩;obtain⟨g,c,rfl,hg1,hg2,c0,c1,c2⟩:=Fu ho;simp at hg1;obtain⟨hc,hfz,hz⟩:=Bx hb;have Hb:=Aa (((Ar w.heap.size w).alloc (Am _) _).trans (hb.mono aH));have hzz:=hz w.heap.size aH;clear hb ho;go_wp2_with fail;refine(Hnum.o _).mono ?_;rintro e w2 ⟨n,hn,rfl,hdn,hb2⟩;rw[Ho.o];obtain⟨hc2,hfz2,hz2⟩:=Bx hb2;have Hb2:=Aa (Hb.o.trans (hb2.mono Hb.o.size));have hsz:=Hb2.o.size;have hz3:=hz2 _ hzz;clear hb2;obtain rfl:=hdn n0 Hd.o;clear hdn;go_wp2_with fail;refine(Hname.o _).mono ?_;rintro e w3 ⟨rfl,rfl⟩;rw[Hnm.o];go_wp2_with fail;refine(Hcut2.o _).mono ?_;rintro e w4 ⟨v4,rfl,ho4,hb4⟩;obtain⟨g4,c4,rfl,hg4,hg5,c40,c41⟩:=M4 ho4;obtain⟨hc4,hfz4,hz4⟩:=Bx hb4;have hzb:=hz4 w.heap.size (Nat.lt_trans hz3 aH);have hzf:=hz4 w2.heap.size aH;have Hb4:=Aa ((Hb2.o.alloc hsz _).trans (hb4.mono (aa hsz aH)));have u0:w4.cell? (w,0)=some (.int .i64 0):=fg;have u1:w4.cell? (w,1)=a6:=fh;have u2:w4.cell? (w,2)=a6:=fi;have u3:w4.cell? (w,3)=a6:=fj;have d0:w4.cell? (w2,0)=(n0:Int):=fw;have d1:w4.cell? (w2,1)=b:=fx;have d2:w4.cell? (w2,2)=a6:=fy;have d3:w4.cell? (w2,3)=a6:=fz;have f1:∀j,w4.frozen? ⟨w.heap.size,j,none⟩=false:=fun j=>ff;have f2:∀j,w4.frozen? ⟨w2.heap.size,j,none⟩=false:=fun j=>fl;clear hb4 ho4 hc hc2 hc4 hfz hfz2 hfz4 hz hz2 hz4;have hn1:¬(w2.heap.size=w.heap.size):=aF;have hn2:¬(w.heap.size=w2.heap.size):=aF;have hn3:¬(w4.heap.size=w.heap.size):=aF;have hn4:¬(w.heap.size=w4.heap.size):=aF;go_wp2_with fail;generalize hW0:(w4.setCell ⟨w2.heap.size,2,none⟩ k).setCell ⟨w2.heap.size,3,none⟩ v=W0;have e0:W0.cell? (w2,0)=(n0:Int):=dh;have e1:W0.cell? (w2,1)=b:=di;have e2:W0.cell? (w2,2)=k:=cW;have e3:W0.cell? (w2,3)=v:=cX;have v0:W0.cell? (w,0)=some (.int .i64 0):=cQ;have v1:W0.cell? (w,1)=a6:=cR;have v2:W0.cell? (w,2)=a6:=cS;have v3:W0.cell? (w,3)=a6:=cT;have g1:∀j,W0.frozen? ⟨w.heap.size,j,none⟩=false:=fun j=>dj;have y1:w.heap.size<W0.heap.size:=df;have Hb5:Below w w W0:=by
  rw[<-hW0];(repeat (first|exact Hb4.o|refine Below.setCell ?_ aK _|refine Below.alloc ?_ aK _|refine Below.drew ?_))
 have Hb5:=Aa Hb5;clear hW0 u0 u1 u2 u3 d0 d1 d2 d3 f1 f2 Hb4 hzb hzf;refine Gd [73,74,75,76,77,78,79,80,81,82,999,5] aJ aJ aJ (fun u=>by dsimp only[Bp,Bh,List.set])
  (fun i x W=>x=[.agg #[.int .i64 n0,.string ⟨b.toArray⟩,.string ⟨k.toArray⟩,.string ⟨v.toArray⟩],.int .u8 85,.bool false,.bool false,undef,undef,undef,undef,undef,.bool false,undef,.bool false][i]?.getD undef)
  (fun L W=>W=if L 10=true then(((W0.drew.setCell ⟨w.heap.size,0,none⟩ (.int .i64 n0)).setCell ⟨w.heap.size,1,none⟩ b).setCell ⟨w.heap.size,2,none⟩ k).setCell ⟨w.heap.size,3,none⟩ v else W0.drew) (fun _ _=>True) (fun _ _ _ _ _ h=>h) rfl ?_ ?_
 ·repeat (first|exact Ap.nil|(refine Ap.cons ?_ ?_;rotate_left))
  all_goals
   rintro L u W hL hpre hR K hK;first|(simp[Region.binds]at hpre;done)|simp[Region.binds]at hpre|clear hpre
   rcases hl:L 10 with _|_;all_goals
    first|exact absurd (hl.symm.trans hL) aI|(
     rw[hl]at hR;first|rw[if_neg aI]at hR|rw[if_pos rfl]at hR
     have hR':=hR.symm;subst hR';go_simp;first|(refine hK _ _ _ rfl Ac bW rfl;done)|(refine hK _ _ _ rfl Ac bW aG;done)|(refine hK undef _ _ rfl Ac bW aG;done))
 rintro L u W hL hφ hR;have c11:=hφ 11 aI;simp at c11;simp only[c11];rw[if_pos (hL 10 aI)]at hR;subst hR;go_wp2_with fail;refine aD (v:=.tuple #[.agg #[.int .i64 n0,b,k,v],.bool false]) (by simp[results,results218,go_sem,g1,y1,v0,v1,v2,v3]) rfl ?_;exact Cp.no HF.o rfl aW
end
end Go.Proofs.YtgfmljfjgohdcaaGreatDoor
