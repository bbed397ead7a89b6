/- Texts joined. Conditions: as each theorem names them. -/
import Derived.Test.YtmmhmlmfhpfgbaaGreatDoorF05
set_option maxRecDepth 100000
set_option maxHeartbeats 32000000
set_option linter.unusedVariables false
set_option linter.unusedSimpArgs false
namespace Go.Proofs.YtmmhmlmfhpfgbaaGreatDoor
open Go.RowKit Go.Proofs.Tryz
section
attribute [local go_sem] Qoe Qnf Qmu Qk2 ByteArray.mk_append_mk
theorem Qix(s a b d:List UInt8)(w:World)(hs:s.length<=1000)(hp:Al 58 s=[a,b,d])(n0:Nat)(ho:Ef a 200=true)(hd:Cx a=some n0)(h1:1<=n0)(h2:n0<=200)(hnm:Be b=true)(k v:List UInt8)(hq:Al 61 d=[k,v])(hsv:Cg k v=true):
  Calls prog 203 #[s,.int .u8 82] w (C7 (Ce 82 s) w):=by
 have hal:=Aq 58 s a bz;have hbl:=Aq 58 s b bz;have hdl:=Aq 58 s d bz;have hF:Ce 82 s=En 82 a b d:=Eo aJ hp;have Hcut:=Aa (fun W=>Cw s 58 58 rfl W aH);rw[hp]at Hcut;have Hnum:=Aa (fun W=>D1 a 200 W aH aH);have Hname:=Aa (fun W=>Cv b W aH);clear hp;have hkl:=Aq 61 d k dG;have hvl:=Aq 61 d v dG;rw[Vy (Mj hd h1 h2 hnm) hq]at hF;have hst2:Cg k v=true:=hsv;have hkk:=fun W=>Xl k v W aH;rw[hsv]at hkk;have Hk:=Aa hkk;rw[if_pos ⟨rfl,hsv⟩]at hF;have Hkb:=Aa (Qi (Pr hsv)).2;clear hsv hst2 hkk;have HF:=Aa hF;have Ho:=Aa ho;have Hd:=Aa hd;have Hnm:=Aa hnm;have Hcut2:=Aa (fun W=>Cw d 61 61 rfl W aH);rw[hq]at Hcut2;clear hF ho hd hnm hq;go_enter func203,ntmps203;go_wp2_with fail;refine(Hcut.o _).mono ?_;rintro e w1 ⟨v,rfl,ho,hb⟩;obtain⟨g,c,rfl,hg1,hg2,c0,c1,c2⟩:=Jb ho;simp at hg1;obtain⟨hc,hfz,hz⟩:=Cj hb;have Hb:=Aa (((Ao w.heap.size w).alloc (An _) _).trans (hb.mono aK));have hzz:=hz w.heap.size aK;clear hb ho;go_wp2_with fail;refine(Hnum.o _).mono ?_;rintro e w2 ⟨n,hn,rfl,hdn,hb2⟩;rw[Ho.o];obtain⟨hc2,hfz2,hz2⟩:=Cj hb2;have Hb2:=Aa (Hb.o.trans (hb2.mono Hb.o.size));have hsz:=Hb2.o.size;have hz3:=hz2 _ hzz;clear hb2;obtain rfl:=hdn n0 Hd.o;clear hdn;go_wp2_with fail;refine(Hname.o _).mono ?_;rintro e w3 ⟨rfl,rfl⟩;rw[Hnm.o];go_wp2_with fail;refine(Hcut2.o _).mono ?_;rintro e w4 ⟨v4,rfl,ho4,hb4⟩;obtain⟨g4,c4,rfl,hg4,hg5,c40,c41⟩:=Pt ho4;obtain⟨hc4,hfz4,hz4⟩:=Cj hb4;have hzb:=hz4 w.heap.size (Nat.lt_trans hz3 aK);have hzf:=hz4 w2.heap.size aK;have Hb4:=Aa ((Hb2.o.alloc hsz _).trans (hb4.mono (ad hsz aK)));have u0:w4.cell? (w,0)=some (.int .i64 0):=gG;have u1:w4.cell? (w,1)=a6:=gH;have u2:w4.cell? (w,2)=a6:=gI;have u3:w4.cell? (w,3)=a6:=gJ;have d0:w4.cell? (w2,0)=(n0:Int):=gS;have d1:w4.cell? (w2,1)=b:=gT;have d2:w4.cell? (w2,2)=a6:=gU;have d3:w4.cell? (w2,3)=a6:=gV;have f1:∀j,w4.frozen? ⟨w.heap.size,j,none⟩=false:=fun j=>gF;have f2:∀j,w4.frozen? ⟨w2.heap.size,j,none⟩=false:=fun j=>gN;clear hb4 ho4 hc hc2 hc4 hfz hfz2 hfz4 hz hz2 hz4;have hn1:¬(w2.heap.size=w.heap.size):=aH;have hn2:¬(w.heap.size=w2.heap.size):=aH;have hn3:¬(w4.heap.size=w.heap.size):=aH;have hn4:¬(w.heap.size=w4.heap.size):=aH;go_wp2_with fail;go_region_with (go_at_call 229;refine(Hk.o _).mono ?_;rintro e w' ⟨rfl,hb6⟩;obtain⟨hc6,hfz6,hz6⟩:=Cj hb6)
 all_goals
  go_wp2
  refine aF (v:=.tuple #[.agg #[.int .i64 n0,b,k,v],.bool true]) (by simp[results,results203,go_sem,u0,u1,u2,u3,d0,d1,d2,d3,hc6,hzz,hz3,hzb,hzf,hn1,hn2,hn3,hn4,sfV]) rfl ?_;exact C7.yes HF.o (by unfold sfV;rw[Hkb.o]) bP
end
end Go.Proofs.YtmmhmlmfhpfgbaaGreatDoor
