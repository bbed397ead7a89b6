/- Texts joined. Conditions: as each theorem names them. -/
import Derived.Test.YtkgkoicedddkmaaGreatDoorR06
set_option maxRecDepth 100000
set_option maxHeartbeats 32000000
set_option linter.unusedVariables false
set_option linter.unusedSimpArgs false
namespace Go.Proofs.YtkgkoicedddkmaaGreatDoor
open Go.RowKit Go.Proofs.Tryz
section
attribute [local go_sem] Qiz Qii Qib Qgw ByteArray.mk_append_mk
theorem Qes(s a b d:List UInt8)(w:World)(hs:s.length<=1000)(hp:Ai 58 s=[a,b,d])(n0:Nat)(ho:Dp a 200=true)(hd:Cn a=some n0)(h1:1<=n0)(h2:n0<=200)(hnm:Aw b=true)(k v:List UInt8)(hq:Ai 61 d=[k,v])(hsv:Bz k v=true):
  Calls prog 109 #[s,.int .u8 82] w (Cp (Br 82 s) w):=by
 have hal:=Ak 58 s a bz;have hbl:=Ak 58 s b bz;have hdl:=Ak 58 s d bz;have hF:Br 82 s=D4 82 a b d:=D3 aK hp;have Hcut:=Aa (fun W=>Cg s 58 58 rfl W aH);rw[hp]at Hcut;have Hnum:=Aa (fun W=>Dg a 200 W aH aH);have Hname:=Aa (fun W=>Cd b W aH);clear hp;have hkl:=Ak 61 d k dC;have hvl:=Ak 61 d v dC;rw[Qix (J8 hd h1 h2 hnm) hq]at hF;have hst2:Bz k v=true:=hsv;have hkk:=fun W=>Sl k v W aH;rw[hsv]at hkk;have Hk:=Aa hkk;rw[if_pos ⟨rfl,hsv⟩]at hF;have Hkb:=Aa (Ns (M6 hsv)).2;clear hsv hst2 hkk;have HF:=Aa hF;have Ho:=Aa ho;have Hd:=Aa hd;have Hnm:=Aa hnm;have Hcut2:=Aa (fun W=>Cg d 61 61 rfl W aH);rw[hq]at Hcut2;clear hF ho hd hnm hq;go_enter func109,ntmps109;go_wp2_with fail;refine(Hcut.o _).mono ?_;rintro e w1 ⟨v,rfl,ho,hb⟩;obtain⟨g,c,rfl,hg1,hg2,c0,c1,c2⟩:=Ga ho;simp at hg1;obtain⟨hc,hfz,hz⟩:=By hb;have Hb:=Aa (((Aq w.heap.size w).alloc (Ap _) _).trans (hb.mono aL));have hzz:=hz w.heap.size aL;clear hb ho;go_wp2_with fail;refine(Hnum.o _).mono ?_;rintro e w2 ⟨n,hn,rfl,hdn,hb2⟩;rw[Ho.o];obtain⟨hc2,hfz2,hz2⟩:=By hb2;have Hb2:=Aa (Hb.o.trans (hb2.mono Hb.o.size));have hsz:=Hb2.o.size;have hz3:=hz2 _ hzz;clear hb2;obtain rfl:=hdn n0 Hd.o;clear hdn;go_wp2_with fail;refine(Hname.o _).mono ?_;rintro e w3 ⟨rfl,rfl⟩;rw[Hnm.o];go_wp2_with fail;refine(Hcut2.o _).mono ?_;rintro e w4 ⟨v4,rfl,ho4,hb4⟩;obtain⟨g4,c4,rfl,hg4,hg5,c40,c41⟩:=Nb ho4;obtain⟨hc4,hfz4,hz4⟩:=By hb4;have hzb:=hz4 w.heap.size (Nat.lt_trans hz3 aL);have hzf:=hz4 w2.heap.size aL;have Hb4:=Aa ((Hb2.o.alloc hsz _).trans (hb4.mono (ad hsz aL)));have u0:w4.cell? (w,0)=some (.int .i64 0):=gB;have u1:w4.cell? (w,1)=a8:=gC;have u2:w4.cell? (w,2)=a8:=gD;have u3:w4.cell? (w,3)=a8:=gE;have d0:w4.cell? (w2,0)=(n0:Int):=gM;have d1:w4.cell? (w2,1)=b:=gN;have d2:w4.cell? (w2,2)=a8:=gO;have d3:w4.cell? (w2,3)=a8:=gP;have f1:∀j,w4.frozen? ⟨w.heap.size,j,none⟩=false:=fun j=>gA;have f2:∀j,w4.frozen? ⟨w2.heap.size,j,none⟩=false:=fun j=>gG;clear hb4 ho4 hc hc2 hc4 hfz hfz2 hfz4 hz hz2 hz4;have hn1:¬(w2.heap.size=w.heap.size):=aH;have hn2:¬(w.heap.size=w2.heap.size):=aH;have hn3:¬(w4.heap.size=w.heap.size):=aH;have hn4:¬(w.heap.size=w4.heap.size):=aH;go_wp2_with fail;go_region_with (go_at_call 123;refine(Hk.o _).mono ?_;rintro e w' ⟨rfl,hb6⟩;obtain⟨hc6,hfz6,hz6⟩:=By hb6)
 all_goals
  go_wp2
  refine aF (v:=.tuple #[.agg #[.int .i64 n0,b,k,v],.bool true]) (by simp[results,results109,go_sem,u0,u1,u2,u3,d0,d1,d2,d3,hc6,hzz,hz3,hzb,hzf,hn1,hn2,hn3,hn4,sfV]) rfl ?_;exact Cp.yes HF.o (by unfold sfV;rw[Hkb.o]) bP
end
end Go.Proofs.YtkgkoicedddkmaaGreatDoor
