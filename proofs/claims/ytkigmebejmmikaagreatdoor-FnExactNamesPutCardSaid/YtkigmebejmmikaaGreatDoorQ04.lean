/- Texts joined. Conditions: as each theorem names them. -/
import Derived.Deep.RegionWith
import Derived.Laws.Rows
import Derived.Sort.Walk0
import Derived.BigRegion
import Derived.BigQuiet
import Derived.Deep.QuietTactic
import Derived.Deep.MidRow
import Derived.Test.YtkigmebejmmikaaGreatDoorQ01
import Derived.Test.YtkigmebejmmikaaGreatDoorQ02
import Derived.Test.YtkigmebejmmikaaGreatDoorQ03
import Derived.Test.YtkigmebejmmikaaGreatDoorQ05
import Derived.Test.YtkigmebejmmikaaGreatDoorQ07
set_option maxRecDepth 100000
set_option maxHeartbeats 32000000
set_option linter.unusedVariables false
set_option linter.unusedSimpArgs false
namespace Go.Proofs.YtkigmebejmmikaaGreatDoor
open Go.RowKit Go.Proofs.Tryz
section
attribute [local go_sem] Qja Qit Qib Qgw ByteArray.mk_append_mk
def Fv(k:Kd):Value:=.agg #[.string ⟨k.signs.toArray⟩,.string ⟨k.base.toArray⟩,.string ⟨k.name.toArray⟩]
def H3(o:Option Kd)(w:World)(e:Ending)(w':World):Prop:=
 (match o with
  |some k=>e=.returned (.tuple #[Fv k,.bool true])
  |none=>∃(a b c:ByteArray),e=.returned (.tuple #[.agg #[.string a,.string b,.string c],.bool false]))/\Below w.heap.size w w'
theorem H3.no{w w':World}{e:Ending}{o:Option Kd}(ho:o=none){a b c:ByteArray}(he:e=.returned (.tuple #[.agg #[.string a,.string b,.string c],.bool false]))(hb:Below w.heap.size w w'):H3 o w e w':=by
 rw[ho];exact⟨⟨a,b,c,he⟩,hb⟩
theorem H3.yes{w w':World}{e:Ending}{o:Option Kd}{k:Kd}(ho:o=some k)(he:e=.returned (.tuple #[Fv k,.bool true]))(hb:Below w.heap.size w w'):H3 o w e w':=by
 rw[ho];exact⟨he,hb⟩
theorem Qfp(c:UInt8):([91,63]:List UInt8).contains c=Bo c:=by
 have:=N0 (p:=fun c=>([91,63]:List UInt8).contains c == Bo c) (by decide +kernel) c
 simpa using this
theorem Qee(s:List UInt8):s.dropWhile (([91,63]:List UInt8).contains ·)=s.dropWhile Bo:=by
 congr 1;funext c;exact Qfp c
theorem Pd(r:List UInt8)(c:UInt8):Lib.hasSuffix r [c]=decide (r.getLast?=some c):=by
 rcases Eh r with rfl|⟨t,d,rfl⟩
 ·rfl
 unfold Lib.hasSuffix List.isSuffixOf
 rw[List.reverse_append,List.getLast?_append]
 by_cases h:c=d
 ·subst h;simp[List.isPrefixOf]
 have h':d≠c:=fun e=>h e.symm
 simp[List.isPrefixOf,h,h']
theorem Zq(s:List UInt8)(h:s.length<=12):∃g r,s=g++r/\s.dropWhile Bo=r /\
  ((∃b,(b=110\/b=116\/b=102)/\r=[b]/\Cg s=some ⟨g,r,[]⟩) \/
   (∃nm,r=64::(nm++[59])/\Cg s=if Au nm=true then some ⟨g,[64],nm⟩else none) \/
   ((r == [110])=false/\(r == [116])=false/\(r == [102])=false/\(r.head?≠some 64\/(r.head?=some 64/\r.getLast?≠some 59))/\Cg s=none)):=by
 refine⟨s.takeWhile Bo,s.dropWhile Bo,List.takeWhile_append_dropWhile.symm,rfl,?_⟩
 unfold Cg
 rw[if_neg (by omega)]
 by_cases h1:s.dropWhile Bo=[110]\/s.dropWhile Bo=[116]\/s.dropWhile Bo=[102]
 ·left
  rw[if_pos h1]
  rcases h1 with h|h|h
  ·exact⟨110,by simp,h,rfl⟩
  ·exact⟨116,by simp,h,rfl⟩
  exact⟨102,by simp,h,rfl⟩
 right
 rw[if_neg h1]
 simp only[not_or]at h1
 by_cases h2:(s.dropWhile Bo).head?=some 64
 ·by_cases h3:(s.dropWhile Bo).getLast?=some 59
  ·left
   have e:=Qcp h2 h3
   refine⟨((s.dropWhile Bo).drop 1).dropLast,e,?_⟩
   by_cases h4:Au ((s.dropWhile Bo).drop 1).dropLast=true
   ·rw[if_pos ⟨h2,h3,h4⟩,if_pos h4]
   rw[if_neg (fun h=>h4 h.2.2),if_neg h4]
  right
  refine⟨by simpa using h1.1,by simpa using h1.2.1,by simpa using h1.2.2,.inr ⟨h2,h3⟩,?_⟩
  rw[if_neg (fun h=>h3 h.2.1)]
 right
 refine⟨by simpa using h1.1,by simpa using h1.2.1,by simpa using h1.2.2,.inl h2,?_⟩
 rw[if_neg (fun h=>h2 h.1)]
theorem Qd(s:List UInt8)(w:World)(hs:s.length<=4000000):
  Calls prog 53 #[.string ⟨s.toArray⟩] w (H3 (Cg s) w):=by
 rcases Nat.lt_or_ge 12 s.length with h12|h12
 ·have Hn:=Aa (show Cg s=none by unfold Cg;rw[if_pos h12])
  go_enter func53,ntmps53
  go_wp2_with fail
  refine bodyPost_ret (v:=.tuple #[.agg #[.string ⟨#[]⟩,.string ⟨#[]⟩,.string ⟨#[]⟩],.bool false]) (by simp[results,results53,go_sem]) rfl ?_
  exact H3.no Hn.o rfl ((As _ _).alloc (Ap _) _)
 obtain⟨g,r,hsr,hr,hcase⟩:=Zq s h12
 have hT:=fun W=>Ms s [91,63] W (by decide) (by decide)
 simp only[Qee,hr]at hT
 have HT:=Aa hT
 have hl:s.length=g.length+r.length:=by rw[hsr];simp
 have Htk:=Aa (show s.take (s.length - r.length)=g by rw[hl,hsr];simp)
 have k1:(0:Int)<=(s.length:Int) - (r.length:Int):=by omega
 have k2:(s.length:Int) - (r.length:Int)<=(s.length:Int):=by omega
 have k3:((s.length:Int) - (r.length:Int)).toNat=s.length - r.length:=by omega
 have hr12:r.length<=12:=by omega
 have hl1:r.length<=s.length:=by omega
 clear hT hr hl hsr
 rcases hcase with⟨b,hb,rfl,hk⟩|⟨nm,rfl,hk⟩|⟨q1,q2,q3,hh,hk⟩
 ·have h1:1<=s.length:=by simp at hl1;omega
  have Hg:=Aa (show s.take (s.length - 1)=g by simpa using Htk.o)
  have Hk:=Aa hk
  clear hk k1 k2 k3
  rcases hb with rfl|rfl|rfl
  ·go_enter func53,ntmps53
   go_wp2_with fail
   refine(HT.o _).mono ?_
   rintro e w1 ⟨rfl,hb⟩
   obtain⟨hc,hfz,hz⟩:=Bw hb
   have hzz:=hz w.heap.size (by simp)
   have hn1:¬(w1.heap.size=w.heap.size):=by omega
   have hn2:¬(w.heap.size=w1.heap.size):=by omega
   have Hb:=Aa (((As w.heap.size w).alloc (Ap _) _).trans (hb.mono (by simp)))
   have u0:w1.cell? ⟨w.heap.size,0,none⟩=some (.string ⟨#[]⟩):=by rw[hc w.heap.size 0 (by simp)];simp
   have u1:w1.cell? ⟨w.heap.size,1,none⟩=some (.string ⟨#[]⟩):=by rw[hc w.heap.size 1 (by simp)];simp
   have u2:w1.cell? ⟨w.heap.size,2,none⟩=some (.string ⟨#[]⟩):=by rw[hc w.heap.size 2 (by simp)];simp
   have fu:∀j,w1.frozen? ⟨w.heap.size,j,none⟩=false:=fun j=>by rw[hfz w.heap.size j (by simp)];simp
   clear hb hc hfz hz
   go_wp2_with fail
   refine bodyPost_ret (v:=.tuple #[.agg #[.string ⟨(s.take (s.length - 1)).toArray⟩,.string ⟨#[110]⟩,.string ⟨#[]⟩],.bool true]) (by simp[results,results53,go_sem,u0,u1,u2,fu,hn1,hn2,hzz]) rfl ?_
   exact H3.yes Hk.o (by rw[Hg.o];rfl) (by(repeat (first|exact Hb.o|refine Below.setCell ?_ (by first|exact Ap _|(simp;omega)|omega) _|refine Below.alloc ?_ (by first|exact Ap _|(simp;omega)|omega) _|refine Below.drew ?_)))
  ·go_enter func53,ntmps53
   go_wp2_with fail
   refine(HT.o _).mono ?_
   rintro e w1 ⟨rfl,hb⟩
   obtain⟨hc,hfz,hz⟩:=Bw hb
   have hzz:=hz w.heap.size (by simp)
   have hn1:¬(w1.heap.size=w.heap.size):=by omega
   have hn2:¬(w.heap.size=w1.heap.size):=by omega
   have Hb:=Aa (((As w.heap.size w).alloc (Ap _) _).trans (hb.mono (by simp)))
   have u0:w1.cell? ⟨w.heap.size,0,none⟩=some (.string ⟨#[]⟩):=by rw[hc w.heap.size 0 (by simp)];simp
   have u1:w1.cell? ⟨w.heap.size,1,none⟩=some (.string ⟨#[]⟩):=by rw[hc w.heap.size 1 (by simp)];simp
   have u2:w1.cell? ⟨w.heap.size,2,none⟩=some (.string ⟨#[]⟩):=by rw[hc w.heap.size 2 (by simp)];simp
   have fu:∀j,w1.frozen? ⟨w.heap.size,j,none⟩=false:=fun j=>by rw[hfz w.heap.size j (by simp)];simp
   clear hb hc hfz hz
   go_wp2_with fail
   refine bodyPost_ret (v:=.tuple #[.agg #[.string ⟨(s.take (s.length - 1)).toArray⟩,.string ⟨#[116]⟩,.string ⟨#[]⟩],.bool true]) (by simp[results,results53,go_sem,u0,u1,u2,fu,hn1,hn2,hzz]) rfl ?_
   exact H3.yes Hk.o (by rw[Hg.o];rfl) (by(repeat (first|exact Hb.o|refine Below.setCell ?_ (by first|exact Ap _|(simp;omega)|omega) _|refine Below.alloc ?_ (by first|exact Ap _|(simp;omega)|omega) _|refine Below.drew ?_)))
  go_enter func53,ntmps53
  go_wp2_with fail
  refine(HT.o _).mono ?_
  rintro e w1 ⟨rfl,hb⟩
  obtain⟨hc,hfz,hz⟩:=Bw hb
  have hzz:=hz w.heap.size (by simp)
  have hn1:¬(w1.heap.size=w.heap.size):=by omega
  have hn2:¬(w.heap.size=w1.heap.size):=by omega
  have Hb:=Aa (((As w.heap.size w).alloc (Ap _) _).trans (hb.mono (by simp)))
  have u0:w1.cell? ⟨w.heap.size,0,none⟩=some (.string ⟨#[]⟩):=by rw[hc w.heap.size 0 (by simp)];simp
  have u1:w1.cell? ⟨w.heap.size,1,none⟩=some (.string ⟨#[]⟩):=by rw[hc w.heap.size 1 (by simp)];simp
  have u2:w1.cell? ⟨w.heap.size,2,none⟩=some (.string ⟨#[]⟩):=by rw[hc w.heap.size 2 (by simp)];simp
  have fu:∀j,w1.frozen? ⟨w.heap.size,j,none⟩=false:=fun j=>by rw[hfz w.heap.size j (by simp)];simp
  clear hb hc hfz hz
  go_wp2_with fail
  refine bodyPost_ret (v:=.tuple #[.agg #[.string ⟨(s.take (s.length - 1)).toArray⟩,.string ⟨#[102]⟩,.string ⟨#[]⟩],.bool true]) (by simp[results,results53,go_sem,u0,u1,u2,fu,hn1,hn2,hzz]) rfl ?_
  exact H3.yes Hk.o (by rw[Hg.o];rfl) (by(repeat (first|exact Hb.o|refine Below.setCell ?_ (by first|exact Ap _|(simp;omega)|omega) _|refine Below.alloc ?_ (by first|exact Ap _|(simp;omega)|omega) _|refine Below.drew ?_)))
 ·have h1:nm.length+2<=s.length:=by simp at hl1;omega
  have Hg:=Aa (show s.take (s.length - (nm.length+1+1))=g by simpa using Htk.o)
  have hnl:nm.length<=12:=by omega
  have hmid:(nm++[59]).take nm.length=nm:=by simp
  have Hn:=Aa (fun W=>Jz nm W (by omega))
  have hp:([64]:List UInt8).isPrefixOf (64::(nm++[59]))=true:=rfl
  have hs:Lib.hasSuffix (64::(nm++[59])) [59]=true:=by
   rw[Pd,show (64:UInt8)::(nm++[59])=(64::nm)++[59]from rfl,List.getLast?_append];rfl
  have Hp:=Aa (fun W=>Pi (64::(nm++[59])) [64] W)
  have Hs:=Aa (fun W=>Pg (64::(nm++[59])) [59] W (by simp;omega))
  rw[hp]at Hp
  rw[hs]at Hs
  clear hp hs k1 k2 k3
  rcases Bool.eq_false_or_eq_true (Au nm)with hnm|hnm
  ·rw[if_pos hnm]at hk
   rw[hnm]at Hn
   have Hk:=Aa hk
   clear hk hnm
   go_enter func53,ntmps53
   go_wp2_with fail
   refine(HT.o _).mono ?_
   rintro e w1 ⟨rfl,hb⟩
   obtain⟨hc,hfz,hz⟩:=Bw hb
   have hzz:=hz w.heap.size (by simp)
   have hn1:¬(w1.heap.size=w.heap.size):=by omega
   have hn2:¬(w.heap.size=w1.heap.size):=by omega
   have Hb:=Aa (((As w.heap.size w).alloc (Ap _) _).trans (hb.mono (by simp)))
   have u0:w1.cell? ⟨w.heap.size,0,none⟩=some (.string ⟨#[]⟩):=by rw[hc w.heap.size 0 (by simp)];simp
   have u1:w1.cell? ⟨w.heap.size,1,none⟩=some (.string ⟨#[]⟩):=by rw[hc w.heap.size 1 (by simp)];simp
   have u2:w1.cell? ⟨w.heap.size,2,none⟩=some (.string ⟨#[]⟩):=by rw[hc w.heap.size 2 (by simp)];simp
   have fu:∀j,w1.frozen? ⟨w.heap.size,j,none⟩=false:=fun j=>by rw[hfz w.heap.size j (by simp)];simp
   clear hb hc hfz hz
   go_wp2_with fail
   refine(Hp.o _).mono ?_
   rintro e w2 ⟨rfl,rfl⟩
   go_wp2_with fail
   refine(Hs.o _).mono ?_
   rintro e w2 ⟨rfl,rfl⟩
   go_wp2_with fail
   go_region_with (go_at_call 95;refine(Hn.o _).mono ?_;rintro e w' ⟨rfl,hb6⟩;obtain⟨hc6,hfz6,hz6⟩:=Bw hb6;have y0:w'.cell? ⟨w.heap.size,0,none⟩=some (.string ⟨#[]⟩):=(by rw[hc6 w.heap.size 0 (by simp;omega)];simp[go_sem,u0,hn1,hn2,hzz]);have y1:w'.cell? ⟨w.heap.size,1,none⟩=some (.string ⟨#[]⟩):=(by rw[hc6 w.heap.size 1 (by simp;omega)];simp[go_sem,u1,hn1,hn2,hzz]);have y2:w'.cell? ⟨w.heap.size,2,none⟩=some (.string ⟨#[]⟩):=(by rw[hc6 w.heap.size 2 (by simp;omega)];simp[go_sem,u2,hn1,hn2,hzz]);have y6:=hz6 w.heap.size (by simp;omega))
   all_goals
    go_wp2
    refine bodyPost_ret (v:=.tuple #[.agg #[.string ⟨(s.take (s.length - (nm.length+1+1))).toArray⟩,.string ⟨#[64]⟩,.string ⟨nm.toArray⟩],.bool true]) (by simp[results,results53,go_sem,u0,u1,u2,fu,hn1,hn2,hzz,y0,y1,y2]) rfl ?_
    exact H3.yes Hk.o (by rw[Hg.o];rfl) (by(repeat (first|exact Hb.o|refine Below.setCell ?_ (by first|exact Ap _|(simp;omega)|omega) _|refine Below.alloc ?_ (by first|exact Ap _|(simp;omega)|omega) _|refine Below.drew ?_|refine Below.trans ?_ (hb6.mono (by first|exact Ap _|(simp;omega)|omega)))))
  rw[if_neg (by rw[hnm];decide)]at hk
  rw[hnm]at Hn
  have Hk:=Aa hk
  clear hk hnm
  go_enter func53,ntmps53
  go_wp2_with fail
  refine(HT.o _).mono ?_
  rintro e w1 ⟨rfl,hb⟩
  obtain⟨hc,hfz,hz⟩:=Bw hb
  have hzz:=hz w.heap.size (by simp)
  have hn1:¬(w1.heap.size=w.heap.size):=by omega
  have hn2:¬(w.heap.size=w1.heap.size):=by omega
  have Hb:=Aa (((As w.heap.size w).alloc (Ap _) _).trans (hb.mono (by simp)))
  have u0:w1.cell? ⟨w.heap.size,0,none⟩=some (.string ⟨#[]⟩):=by rw[hc w.heap.size 0 (by simp)];simp
  have u1:w1.cell? ⟨w.heap.size,1,none⟩=some (.string ⟨#[]⟩):=by rw[hc w.heap.size 1 (by simp)];simp
  have u2:w1.cell? ⟨w.heap.size,2,none⟩=some (.string ⟨#[]⟩):=by rw[hc w.heap.size 2 (by simp)];simp
  have fu:∀j,w1.frozen? ⟨w.heap.size,j,none⟩=false:=fun j=>by rw[hfz w.heap.size j (by simp)];simp
  clear hb hc hfz hz
  go_wp2_with fail
  refine(Hp.o _).mono ?_
  rintro e w2 ⟨rfl,rfl⟩
  go_wp2_with fail
  refine(Hs.o _).mono ?_
  rintro e w2 ⟨rfl,rfl⟩
  go_wp2_with fail
  go_region_with (go_at_call 95;refine(Hn.o _).mono ?_;rintro e w' ⟨rfl,hb6⟩;obtain⟨hc6,hfz6,hz6⟩:=Bw hb6;have y0:w'.cell? ⟨w.heap.size,0,none⟩=some (.string ⟨#[]⟩):=(by rw[hc6 w.heap.size 0 (by simp;omega)];simp[go_sem,u0,hn1,hn2,hzz]);have y1:w'.cell? ⟨w.heap.size,1,none⟩=some (.string ⟨#[]⟩):=(by rw[hc6 w.heap.size 1 (by simp;omega)];simp[go_sem,u1,hn1,hn2,hzz]);have y2:w'.cell? ⟨w.heap.size,2,none⟩=some (.string ⟨#[]⟩):=(by rw[hc6 w.heap.size 2 (by simp;omega)];simp[go_sem,u2,hn1,hn2,hzz]);have y6:=hz6 w.heap.size (by simp;omega))
  all_goals
   go_wp2
   refine bodyPost_ret (v:=.tuple #[.agg #[.string ⟨(s.take (s.length - (nm.length+1+1))).toArray⟩,.string ⟨#[64]⟩,.string ⟨nm.toArray⟩],.bool false]) (by simp[results,results53,go_sem,u0,u1,u2,fu,hn1,hn2,hzz,y0,y1,y2]) rfl ?_
   exact H3.no Hk.o rfl (by(repeat (first|exact Hb.o|refine Below.setCell ?_ (by first|exact Ap _|(simp;omega)|omega) _|refine Below.alloc ?_ (by first|exact Ap _|(simp;omega)|omega) _|refine Below.drew ?_|refine Below.trans ?_ (hb6.mono (by first|exact Ap _|(simp;omega)|omega)))))
 have Hp:=Aa (fun W=>Pi r [64] W)
 have Hs:=Aa (fun W=>Pg r [59] W (by omega))
 have Hk:=Aa hk
 have q1':¬(r=[110]):=by simpa using q1
 have q2':¬(r=[116]):=by simpa using q2
 have q3':¬(r=[102]):=by simpa using q3
 clear hk k1 k2 k3
 rcases hh with hh|⟨hh,hl2⟩
 ·have hp:([64]:List UInt8).isPrefixOf r=false:=by
   cases r with
   |nil=>rfl
   |cons c r=>simp at hh;simp[List.isPrefixOf];exact fun e=>hh e.symm
  rw[hp]at Hp
  clear hp hh
  go_enter func53,ntmps53
  go_wp2_with fail
  refine(HT.o _).mono ?_
  rintro e w1 ⟨rfl,hb⟩
  obtain⟨hc,hfz,hz⟩:=Bw hb
  have hzz:=hz w.heap.size (by simp)
  have hn1:¬(w1.heap.size=w.heap.size):=by omega
  have hn2:¬(w.heap.size=w1.heap.size):=by omega
  have Hb:=Aa (((As w.heap.size w).alloc (Ap _) _).trans (hb.mono (by simp)))
  have u0:w1.cell? ⟨w.heap.size,0,none⟩=some (.string ⟨#[]⟩):=by rw[hc w.heap.size 0 (by simp)];simp
  have u1:w1.cell? ⟨w.heap.size,1,none⟩=some (.string ⟨#[]⟩):=by rw[hc w.heap.size 1 (by simp)];simp
  have u2:w1.cell? ⟨w.heap.size,2,none⟩=some (.string ⟨#[]⟩):=by rw[hc w.heap.size 2 (by simp)];simp
  have fu:∀j,w1.frozen? ⟨w.heap.size,j,none⟩=false:=fun j=>by rw[hfz w.heap.size j (by simp)];simp
  clear hb hc hfz hz
  go_wp2_with fail
  refine(Hp.o _).mono ?_
  rintro e w2 ⟨rfl,rfl⟩
  go_wp2_with fail
  refine bodyPost_ret (v:=.tuple #[.agg #[.string ⟨#[]⟩,.string ⟨#[]⟩,.string ⟨#[]⟩],.bool false]) (by simp[results,results53,go_sem,u0,u1,u2,fu,hn1,hn2,hzz]) rfl ?_
  exact H3.no Hk.o rfl (by(repeat (first|exact Hb.o|refine Below.setCell ?_ (by first|exact Ap _|(simp;omega)|omega) _|refine Below.alloc ?_ (by first|exact Ap _|(simp;omega)|omega) _|refine Below.drew ?_)))
 have hp:([64]:List UInt8).isPrefixOf r=true:=by
  cases r with
  |nil=>simp at hh
  |cons c r=>simp at hh;subst hh;rfl
 have hs:Lib.hasSuffix r [59]=false:=by rw[Pd];simpa using hl2
 rw[hp]at Hp
 rw[hs]at Hs
 clear hp hs hh hl2
 go_enter func53,ntmps53
 go_wp2_with fail
 refine(HT.o _).mono ?_
 rintro e w1 ⟨rfl,hb⟩
 obtain⟨hc,hfz,hz⟩:=Bw hb
 have hzz:=hz w.heap.size (by simp)
 have hn1:¬(w1.heap.size=w.heap.size):=by omega
 have hn2:¬(w.heap.size=w1.heap.size):=by omega
 have Hb:=Aa (((As w.heap.size w).alloc (Ap _) _).trans (hb.mono (by simp)))
 have u0:w1.cell? ⟨w.heap.size,0,none⟩=some (.string ⟨#[]⟩):=by rw[hc w.heap.size 0 (by simp)];simp
 have u1:w1.cell? ⟨w.heap.size,1,none⟩=some (.string ⟨#[]⟩):=by rw[hc w.heap.size 1 (by simp)];simp
 have u2:w1.cell? ⟨w.heap.size,2,none⟩=some (.string ⟨#[]⟩):=by rw[hc w.heap.size 2 (by simp)];simp
 have fu:∀j,w1.frozen? ⟨w.heap.size,j,none⟩=false:=fun j=>by rw[hfz w.heap.size j (by simp)];simp
 clear hb hc hfz hz
 go_wp2_with fail
 refine(Hp.o _).mono ?_
 rintro e w2 ⟨rfl,rfl⟩
 go_wp2_with fail
 refine(Hs.o _).mono ?_
 rintro e w2 ⟨rfl,rfl⟩
 go_wp2_with fail
 refine bodyPost_ret (v:=.tuple #[.agg #[.string ⟨#[]⟩,.string ⟨#[]⟩,.string ⟨#[]⟩],.bool false]) (by simp[results,results53,go_sem,u0,u1,u2,fu,hn1,hn2,hzz]) rfl ?_
 exact H3.no Hk.o rfl (by(repeat (first|exact Hb.o|refine Below.setCell ?_ (by first|exact Ap _|(simp;omega)|omega) _|refine Below.alloc ?_ (by first|exact Ap _|(simp;omega)|omega) _|refine Below.drew ?_)))
end
def Qs(f:Fd):List Value:=[.int .i64 (f.tag:Int),.string ⟨f.name.toArray⟩,.string ⟨f.kind.signs.toArray⟩,.string ⟨f.kind.base.toArray⟩,.string ⟨f.kind.name.toArray⟩,.string ⟨f.given.toArray⟩]
def ifV(f:Fd):Value:=.agg #[.int .i64 (f.tag:Int),.string ⟨f.name.toArray⟩,.string ⟨f.kind.signs.toArray⟩,.string ⟨f.kind.base.toArray⟩,.string ⟨f.kind.name.toArray⟩,.string ⟨f.given.toArray⟩]
theorem Qcy(f:Fd):(Qs f).length=6:=rfl
def Q7(w:World)(v:Value)(fs:List Fd):Prop:=∃A c,v=.slice A fs.length c/\fs.length<=8/\Bh w A (fs.length*6) (fs.flatMap Qs)
theorem Q7.below{w w':World}{v:Value}{fs:List Fd}(h:Q7 w v fs)(hb:Below w.heap.size w w'):Q7 w' v fs:=by
 obtain⟨A,c,e,hl,hr⟩:=h
 exact⟨A,c,e,hl,hr.below hb⟩
theorem Q7.at_{w:World}{A:Option Addr}{fs:List Fd}(hr:Bh w A (fs.length*6) (fs.flatMap Qs)){i:Nat}(hi:i<fs.length):
  ∃b off,A=some ⟨b,off,none⟩/\b<w.heap.size/\w.cell? ⟨b,off+i*6,none⟩=some (.int .i64 (fs[i].tag:Int))/\w.cell? ⟨b,off+i*6+1,none⟩=some (.string ⟨fs[i].name.toArray⟩) /\
   w.cell? ⟨b,off+i*6+2,none⟩=some (.string ⟨fs[i].kind.signs.toArray⟩)/\w.cell? ⟨b,off+i*6+3,none⟩=some (.string ⟨fs[i].kind.base.toArray⟩) /\
   w.cell? ⟨b,off+i*6+4,none⟩=some (.string ⟨fs[i].kind.name.toArray⟩)/\w.cell? ⟨b,off+i*6+5,none⟩=some (.string ⟨fs[i].given.toArray⟩):=by
 obtain⟨b,off,e,hlt,hc⟩:=hr.elem Qcy (by decide) hi
 refine⟨b,off,e,hlt,?_,?_,?_,?_,?_,?_⟩
 ·have:=hc 0 _ rfl;simpa using this
 ·have:=hc 1 _ rfl;simpa [Nat.add_assoc]using this
 ·have:=hc 2 _ rfl;simpa [Nat.add_assoc]using this
 ·have:=hc 3 _ rfl;simpa [Nat.add_assoc]using this
 ·have:=hc 4 _ rfl;simpa [Nat.add_assoc]using this
 have:=hc 5 _ rfl;simpa [Nat.add_assoc]using this
structure PT where
 ty:Ty
 blk:Nat
 fv:Value
def Py(w:World)(b:Nat):Prop:=∃cs t,w.heap[b]?=some (.cells cs t (0,0))
theorem Py.belowAt{B:Nat}{w w':World}{b:Nat}(h:Py w b)(hb:b<B)(hw:Below B w w'):Py w' b:=by
 obtain⟨cs,t,h⟩:=h
 exact⟨cs,t,(hw.block b hb).trans h⟩
theorem Py.grown{w w':World}{b:Nat}{row:Option Nat}(h:Py w b)(hb:b<w.heap.size)(hg:w.grownBy w' row)(hne:some b≠row):Py w' b:=by
 obtain⟨cs,t,h⟩:=h
 exact⟨cs,t,(hg.block b hb hne).trans h⟩
theorem Py.set{w:World}{b o:Nat}(h:Py w b)(v:Value):Py (w.setCell ⟨b,o,none⟩ v) b:=by
 obtain⟨cs,t,h⟩:=h
 exact⟨_,t,heap_setCell_same w b o cs t v h⟩
theorem Py.new(w:World)(cs:Array Value)(t:TypeId):Py (w.alloc (.cells cs t)) w.heap.size:=⟨cs,t,heap_alloc_new w _⟩
def PT.ptr(x:PT):Value:=.pointer (some ⟨x.blk,0,none⟩)
def Qv(w:World)(x:PT):Prop:=
 x.blk<w.heap.size/\Py w x.blk/\w.cell? ⟨x.blk,0,none⟩=some (.int .u8 (x.ty.sort.toNat:Int))/\w.cell? ⟨x.blk,1,none⟩=some (.string ⟨x.ty.name.toArray⟩)/\w.cell? ⟨x.blk,2,none⟩=some x.fv/\w.cell? ⟨x.blk,3,none⟩=some (.string ⟨(Xm x.ty).toArray⟩)/\Q7 w x.fv x.ty.fields
theorem Qv.below{w w':World}{x:PT}(h:Qv w x)(hb:Below w.heap.size w w'):Qv w' x:=by
 obtain⟨h0,hk,h1,h2,h3,h4,h5⟩:=h
 obtain⟨hc,_,hz⟩:=Bw hb
 exact⟨hz _ h0,hk.belowAt h0 hb,(hc _ _ h0).trans h1,(hc _ _ h0).trans h2,(hc _ _ h0).trans h3,(hc _ _ h0).trans h4,h5.below hb⟩
def Ag(xs:List PT):List Ty:=xs.map (·.ty)
def Ej(xs:List PT)(n:Cl):Option PT:=xs.find? fun x=>decide (x.ty.name=n)
theorem Gb(xs:List PT)(n:Cl):By (Ag xs) n=(Ej xs n).map (·.ty):=by
 unfold By Ag Ej;rw[List.find?_map];rfl
theorem Dz{xs:List PT}{n:Cl}{x:PT}(h:Ej xs n=some x):x∈xs/\x.ty.name=n/\By (Ag xs) n=some x.ty:=by
 refine⟨List.mem_of_find?_eq_some h,?_,by rw[Gb,h];rfl⟩
 have:=List.find?_some h
 simpa using this
def Rc:Option PT->Value
 |some x=>x.ptr
 |none=>.pointer none
def T7(xs:List PT)(l:Lit):Value:=match l with|.string s=>Rc (Ej xs s)|_=>.pointer none
theorem Tryz.keyStr:Go.Maps.Keyed prog 9:=Go.Maps.string_keyed underlying9
theorem Tryz.zeroPtr(w:World):(zeroValue 76).run prog w=.ok (.pointer none) w:=by kernel_rfl
def Nn(w:World)(mb:Nat)(xs:List PT):Prop:=Di prog 9 (.pointer none) w mb xs.length (T7 xs)
def Qn(w:World)(p:Value)(xs:List PT):Prop:=
 ∃b A c mb,p=.pointer (some ⟨b,0,none⟩)/\b<w.heap.size/\w.cell? ⟨b,0,none⟩=some (.slice A xs.length c)/\w.cell? ⟨b,1,none⟩=some (.map (some mb))/\Bh w A xs.length (xs.map (·.ptr))/\Nn w mb xs/\(∀x∈xs,Qv w x)/\xs.Pairwise fun x y=>x.blk≠y.blk
theorem Qn.below{w w':World}{p:Value}{xs:List PT}(h:Qn w p xs)(hb:Below w.heap.size w w'):Qn w' p xs:=by
 obtain⟨b,A,c,mb,e,h0,h1,h2,h3,h4,h5,h6⟩:=h
 obtain⟨hc,_,hz⟩:=Bw hb
 exact⟨b,A,c,mb,e,hz _ h0,(hc _ _ h0).trans h1,(hc _ _ h0).trans h2,h3.below hb,Di.below h4 hb,fun x hx=>(h5 x hx).below hb,h6⟩
theorem Qcx{n:Cl}(h:n.length<=9223372036854775807):keyOf prog 9 (.string ⟨n.toArray⟩)=some (.string n):=by
 have:=Go.WideMaps.keyOf_string_mk (P:=prog) (k:=9) underlying9 (s:=⟨n.toArray⟩) (by unfold maxLen;exact h)
 simpa using this
def Do(o:Option Fd)(w:World)(e:Ending)(w':World):Prop:=
 (match o with
  |some f=>e=.returned (.tuple #[ifV f,.bool true])
  |none=>∃(n:Int) (a b c d g:ByteArray),e=.returned (.tuple #[.agg #[.int .i64 n,.string a,.string b,.string c,.string d,.string g],.bool false]))/\Below w.heap.size w w'
theorem Do.no{w w':World}{e:Ending}{o:Option Fd}(ho:o=none){n:Int}{a b c d g:ByteArray}(he:e=.returned (.tuple #[.agg #[.int .i64 n,.string a,.string b,.string c,.string d,.string g],.bool false]))(hb:Below w.heap.size w w'):Do o w e w':=by
 rw[ho];exact⟨⟨n,a,b,c,d,g,he⟩,hb⟩
theorem Do.yes{w w':World}{e:Ending}{o:Option Fd}{f:Fd}(ho:o=some f)(he:e=.returned (.tuple #[ifV f,.bool true]))(hb:Below w.heap.size w w'):Do o w e w':=by
 rw[ho];exact⟨he,hb⟩
def Qio(w:World)(p:Value)(xs:List PT):Prop:=
 ∃b mb,p=.pointer (some ⟨b,0,none⟩)/\b<w.heap.size/\w.cell? ⟨b,1,none⟩=some (.map (some mb))/\Nn w mb xs
theorem Qn.map{w:World}{p:Value}{xs:List PT}(h:Qn w p xs):Qio w p xs:=by
 obtain⟨b,A,c,mb,e,h0,h1,h2,h3,h4,_⟩:=h
 exact⟨b,mb,e,h0,h2,h4⟩
theorem Fa{w:World}{mb:Nat}{xs:List PT}(h:Nn w mb xs)(n:Cl)(hn:n.length<=9223372036854775807):
  (Instr.lookup 78 (.map (some mb)) (.string ⟨n.toArray⟩) false).run prog w=.ok (Rc (Ej xs n)) w:=
 Di.lookup h Tryz.keyStr underlying78 (Tryz.zeroPtr w) (Qcx hn)
theorem Gp{k:Kd}(h:Co k):k.name.length<=3:=by
 rcases h.2.1 with⟨_,hn⟩|⟨_,hn⟩
 ·exact(C9.1 hn).2.1
 rw[hn];simp
theorem Qn.tys{w:World}{p:Value}{xs:List PT}(h:Qn w p xs):∀x∈xs,Qv w x:=by
 obtain⟨_,_,_,_,_,_,_,_,_,_,h,_⟩:=h
 exact h
section
attribute [local go_sem] Qja Qit Qib Qgw ByteArray.mk_append_mk
def Vc(a b:Cl):Int:=if a<b then -1 else if b<a then 1 else 0
theorem Xj(a:List UInt8)(w:World):Calls prog 113 #[.string ⟨a.toArray⟩] w fun e w'=>e=.returned (.bool false)/\w'=w:=by
 have t1:(a != a)=false:=by simp
 go_enter func113,ntmps113
 go_wp2_with fail
 go_ret
 exact⟨rfl,rfl⟩
theorem Qhi(a b:List UInt8)(w:World):Calls prog 76 #[.string ⟨a.toArray⟩,.string ⟨b.toArray⟩] w fun e w'=>e=.returned (.int .i64 (Vc a b))/\w'=w:=by
 have HV:=Aa (rfl:Vc a b=Vc a b)
 have hcv:Hid (Vc a b=if a<b then -1 else if b<a then 1 else 0):=rfl
 go_enter func76,ntmps76
 go_wp2_with fail
 refine(Xj a _).mono ?_
 rintro e w1 ⟨rfl,rfl⟩
 go_wp2_with fail
 refine(Xj b _).mono ?_
 rintro e w1 ⟨rfl,rfl⟩
 by_cases h1:a<b
 ·have t1:Op.bytesLess a b=true:=by rw[bytesLess_eq];simpa using h1
  go_wp2_with fail
  go_ret
  exact⟨by rw[hcv.o,if_pos h1];rfl,rfl⟩
 have t1:Op.bytesLess a b=false:=by rw[bytesLess_eq];simpa using h1
 by_cases h2:b<a
 ·have t2:Op.bytesLess b a=true:=by rw[bytesLess_eq];simpa using h2
  have t3:(a == b)=false:=by
   simp only[beq_eq_false_iff_ne]
   intro e
   rw[e]at h2
   exact List.lt_irrefl b h2
  go_wp2_with fail
  go_ret
  exact⟨by rw[hcv.o,if_neg h1,if_pos h2];rfl,rfl⟩
 have t2:Op.bytesLess b a=false:=by rw[bytesLess_eq];simpa using h2
 have t3:(a == b)=true:=by simpa using List.le_antisymm (List.not_lt.1 h2) (List.not_lt.1 h1)
 go_wp2_with fail
 go_ret
 exact⟨by rw[hcv.o,if_neg h1,if_neg h2];rfl,rfl⟩
theorem Q7.range{w:World}{A:Option Addr}{fs:List Fd}(hr:Bh w A (fs.length*6) (fs.flatMap Qs)){i:Nat}(hi:i<fs.length):∃b off,A=some ⟨b,off,none⟩/\b<w.heap.size/\w.rangeAt b (off+i*6) (Qs fs[i]):=by
 obtain⟨b,off,e,hlt,hc⟩:=hr.elem Qcy (by decide) hi
 exact⟨b,off,e,hlt,fun j v hv=>by rw[Nat.add_assoc];exact hc j v hv⟩
theorem Qm(w0:World)(x:PT)(hx:Qv w0 x)(n:Nat)(hn:n<=1000000000)(f:Fd)(hf:Bg x.ty.fields n=some f):∃b o,b<w0.heap.size/\w0.rangeAt b o (Qs f)/\∀W,Below w0.heap.size w0 W ->
  Calls prog 38 #[.pointer (some ⟨x.blk,0,none⟩),.int .i64 n] W fun e w'=>e=.returned (.pointer (some ⟨b,o,none⟩))/\W=w':=by
 obtain⟨z0,_,_,_,z3,_,A,c,hfv,hl,hr⟩:=hx
 rw[hfv]at z3
 unfold Bg at hf
 obtain⟨hp,j,hj,hfj,hlt⟩:=List.find?_eq_some_iff_getElem.1 hf
 obtain⟨b,off,rfl,hbl,hrg⟩:=Q7.range hr hj
 rw[hfj]at hrg
 refine⟨b,off+j*6,hbl,hrg,fun W hW=>?_⟩
 have c2:W.cell? ⟨x.blk,2,none⟩=some (.slice (some ⟨b,off,none⟩) x.ty.fields.length c):=(hW.cell (p:=⟨x.blk,2,none⟩) z0).trans z3
 have Hr:=Aa hr
 have Hb:=Aa hW
 have Hlt:=Aa hlt
 have Htag:=Aa (show f.tag=n from by simpa using hp)
 have Hfj:=Aa hfj
 clear hr hfv z3 hW hlt hp hfj hf hrg
 go_enter func38,ntmps38
 go_wp2_with fail
 go_loop [11] (fun i=>∃k:Nat,i=.int .i64 k/\k<=j) (fun i=>x.ty.fields.length - (intOf i).toNat)
 case atStart=>exact⟨0,rfl,Nat.zero_le _⟩
 case round=>
  obtain⟨k,rfl,hk⟩:=hrel
  have hkl:k<x.ty.fields.length:=by omega
  obtain⟨b',off',e',hbl',hrg'⟩:=Q7.range Hr.o hkl
  injection e' with e'
  injection e' with e1 e2
  subst e1 e2
  have c0:W.cell? ⟨b,off+k*6,none⟩=some (.int .i64 ((x.ty.fields[k]).tag:Int)):=by simpa using Ac (Ar hrg' hbl' Hb.o) 0 rfl
  have k1:(0:Int)<=(k:Int):=by omega
  have k2:(k:Int)<(x.ty.fields.length:Int):=by omega
  clear hrg'
  by_cases he:k=j
  ·subst he
   rw[Hfj.o,Htag.o]at c0
   have t1:((n:Int) == (n:Int))=true:=by simp
   go_wp2_with fail
   go_ret
   exact⟨rfl,rfl⟩
  ·have hne:(x.ty.fields[k]).tag≠n:=by have:=Hlt.o k (by omega);simpa using this
   have t1:(((x.ty.fields[k]).tag:Int) == (n:Int))=false:=by rw[beq_eq_false_iff_ne];omega
   generalize (x.ty.fields[k]).tag=tk at *
   clear hne
   go_wp2_with fail
   go_round
   case rel=>exact⟨k+1,by go_num,by omega⟩
   case measure=>simp[intOf];omega
def Jk(x:Vl × Value):List Value:=[.int .u8 (x.1.what.toNat:Int),.string ⟨x.1.text.toArray⟩,.int .i64 (x.1.tag:Int),x.2]
def G1(v:Vl)(sl:Value):Value:=.agg #[.int .u8 (v.what.toNat:Int),.string ⟨v.text.toArray⟩,.int .i64 (v.tag:Int),sl]
theorem Ys(x:Vl × Value):(Jk x).length=4:=rfl
def Av(xs:List (Vl × Value)):List Vl:=xs.map (·.1)
inductive D8(P:Nat->Prop)(w:World):Value->List Vl->Prop
 |mk {v:Value} {ks:List Vl} (A:Option Addr) (c:Nat) (xs:List (Vl × Value)) (hv:v=.slice A xs.length c) (hk:ks=Av xs) (hl:xs.length<=1000) (hr:Bh w A (xs.length*4) (xs.flatMap Jk))
   (hP:∀g o,0<xs.length->A=some ⟨g,o,none⟩->P g) (h:∀x∈xs,D8 P w x.2 x.1.kids):D8 P w v ks
theorem D8.kept{P Q:Nat->Prop}{w w':World}{v:Value}{ks:List Vl}(h:D8 P w v ks)(hc:∀b o u,P b->b<w.heap.size->w.cell? ⟨b,o,none⟩=some u->w'.cell? ⟨b,o,none⟩=some u)
  (hz:w.heap.size<=w'.heap.size) (hQ:∀b,P b->b<w.heap.size->Q b):D8 Q w' v ks:=by
 induction h with
 |mk A c xs hv hk hl hr hP h ih=>
  refine .mk A c xs hv hk hl ⟨hr.1,hr.2.1,fun hn=>?_⟩ (fun g o hn e=>?_) ih
  ·obtain⟨b,off,e,hlt,hcs⟩:=hr.2.2 hn
   exact⟨b,off,e,by omega,fun j u hu=>hc b _ u (hP b off (by omega) e) hlt (hcs j u hu)⟩
  obtain⟨b,off,e2,hlt,_⟩:=hr.2.2 (by omega)
  rw[e]at e2
  injection e2 with e2
  injection e2 with e2 _ _
  subst e2
  exact hQ g (hP g o hn e) hlt
theorem D8.after{P:Nat->Prop}{w w':World}{v:Value}{ks:List Vl}(h:D8 P w v ks)(hb:Below w.heap.size w w'):D8 P w' v ks:=
 h.kept (fun b o u _ hl hu=>(hb.cell (p:=⟨b,o,none⟩) hl).trans hu) hb.size fun _ h _=>h
theorem D8.mono{P Q:Nat->Prop}{w:World}{v:Value}{ks:List Vl}(h:D8 P w v ks)(hQ:∀b,P b->b<w.heap.size->Q b):D8 Q w v ks:=h.kept (fun _ _ _ _ _ hu=>hu) (Ap _) hQ
theorem D8.grown{P:Nat->Prop}{w w':World}{v:Value}{ks:List Vl}{row:Option Nat}(h:D8 P w v ks)(hg:w.grownBy w' row)(hne:∀b,P b->some b≠row):D8 P w' v ks:=
 h.kept (fun b o u hp _ hu=>hg.cell hu (hne b hp)) hg.size fun _ h _=>h
theorem D8.nil(P:Nat->Prop)(w:World):D8 P w (.slice none 0 0) []:=.mk none 0 [] rfl rfl (by simp) ⟨rfl,Nat.zero_le _,fun h=>absurd h (by simp)⟩ (fun _ _ h=>absurd h (by simp)) (by simp)
theorem D8.form{P:Nat->Prop}{w:World}{v:Value}{ks:List Vl}(h:D8 P w v ks):∃A c,v=.slice A ks.length c:=by
 obtain⟨A,c,xs,rfl,rfl,_,_,_,_⟩:=h
 exact⟨A,c,by simp[Av]⟩
theorem D8.at_{w:World}{A:Option Addr}{xs:List (Vl × Value)}(hr:Bh w A (xs.length*4) (xs.flatMap Jk)){i:Nat}(hi:i<xs.length):
  ∃b off,A=some ⟨b,off,none⟩/\b<w.heap.size/\w.cell? ⟨b,off+i*4,none⟩=some (.int .u8 (xs[i].1.what.toNat:Int))/\w.cell? ⟨b,off+i*4+1,none⟩=some (.string ⟨xs[i].1.text.toArray⟩) /\
   w.cell? ⟨b,off+i*4+2,none⟩=some (.int .i64 (xs[i].1.tag:Int))/\w.cell? ⟨b,off+i*4+3,none⟩=some xs[i].2:=by
 obtain⟨b,off,e,hlt,hc⟩:=hr.elem Ys (by decide) hi
 refine⟨b,off,e,hlt,?_,?_,?_,?_⟩
 ·have:=hc 0 _ rfl;simpa using this
 ·have:=hc 1 _ rfl;simpa [Nat.add_assoc]using this
 ·have:=hc 2 _ rfl;simpa [Nat.add_assoc]using this
 have:=hc 3 _ rfl;simpa [Nat.add_assoc]using this
theorem Qho(w0:World)(x:PT)(hx:Qv w0 x)(Bp:Nat)(hB:w0.cell? ⟨Bp,0,none⟩=some (.pointer (some ⟨x.blk,0,none⟩)))(hBl:Bp<w0.heap.size)(u v:Vl × Value)(f g:Fd)(hu1:u.1.tag<=1000000000)(hv1:v.1.tag<=1000000000)
  (hf:Bg x.ty.fields u.1.tag=some f) (hg:Bg x.ty.fields v.1.tag=some g) (W:World) (hW:Below w0.heap.size w0 W) (hus:∃A n c,u.2=.slice A n c) (hvs:∃A n c,v.2=.slice A n c):
  Calls prog 75 #[.agg (Jk u).toArray,.agg (Jk v).toArray,.pointer (some ⟨Bp,0,none⟩)] W fun e w'=>e=.returned (.int .i64 (Vc f.name g.name))/\∃q,w'=((W.alloc (.cells (Jk u).toArray 42)).alloc (.cells (Jk v).toArray 42)).drewN q:=by
 obtain⟨p,o,hp,hpr,HF⟩:=Qm w0 x hx u.1.tag hu1 f hf
 obtain⟨q,o2,hq,hqr,HG⟩:=Qm w0 x hx v.1.tag hv1 g hg
 obtain⟨w1,hw1⟩:∃w1,w1=(W.alloc (.cells (Jk u).toArray 42)).alloc (.cells (Jk v).toArray 42):=⟨_,rfl⟩
 rw[<-hw1]
 have hb1:Below W.heap.size W w1:=by rw[hw1];exact((As _ _).alloc (Ap _) _).alloc (by simp) _
 have hb0:=hW.trans (hb1.mono hW.size)
 have cB:=(hb0.cell (p:=⟨Bp,0,none⟩) hBl).trans hB
 have ca:w1.cell? ⟨p,o+1,none⟩=some (.string ⟨f.name.toArray⟩):=(hb0.cell (p:=⟨p,o+1,none⟩) hp).trans (Ac hpr 1 rfl)
 have cb:w1.cell? ⟨q,o2+1,none⟩=some (.string ⟨g.name.toArray⟩):=(hb0.cell (p:=⟨q,o2+1,none⟩) hq).trans (Ac hqr 1 rfl)
 obtain⟨uv,us⟩:=u
 obtain⟨vv,vs⟩:=v
 obtain⟨A5,n5,c5,rfl⟩:=hus
 obtain⟨A6,n6,c6,rfl⟩:=hvs
 have c3:w1.cell? ⟨W.heap.size,2,none⟩=some (.int .i64 (uv.tag:Int)):=by rw[hw1];simp[Jk,go_sem]
 have c4:w1.cell? ⟨W.heap.size+1,2,none⟩=some (.int .i64 (vv.tag:Int)):=by rw[hw1];simp[Jk,go_sem]
 have HF:=Aa (fun V (hV:∃k,V=w1.drewN k)=>(HF V (by obtain⟨k,rfl⟩:=hV;exact below_drewN hb0 k)).mono fun e w' h=>(⟨h.1,0,h.2.symm⟩:_/\∃k,w'=V.drewN k))
 have HG:=Aa (fun V (hV:∃k,V=w1.drewN k)=>(HG V (by obtain⟨k,rfl⟩:=hV;exact below_drewN hb0 k)).mono fun e w' h=>(⟨h.1,0,h.2.symm⟩:_/\∃k,w'=V.drewN k))
 have HC:=Aa (fun V (hV:∃k,V=w1.drewN k)=>(Qhi f.name g.name V).mono fun e w' h=>(⟨h.1,0,h.2⟩:_/\∃k,w'=V.drewN k))
 have Hw1:=Aa hw1
 clear hw1 hb1 hb0 hW hB hx hf hg hpr hqr
 unfold Jk
 go_enter func75,ntmps75
 go_wp2_with fail
 generalize hwg:World.alloc (World.alloc W _) _=wg
 obtain rfl:w1=wg:=Hw1.o.trans hwg
 clear hwg
 refine rgD ?_
 iterate 3 refine sq ?_
 refine sqD HF.o ?_
 iterate 6 refine sq ?_
 refine sqD HG.o ?_
 iterate 3 refine sq ?_
 refine sqD HC.o ?_
 refine sq ?_
 refine dnB fun W5 HB=>?_
 go_wp2_with fail
 go_ret
 exact⟨rfl,HB.o⟩
end
section
open Go.RowKit Go.Sort
attribute [local go_sem] Qja Qit Qib Qgw ByteArray.mk_append_mk
theorem Qbd{α:Type}[Inhabited α]{enc:α->List Value}{k:Nat}(hk:∀x,(enc x).length=k)(hk0:0<k){w:World}{base g c n:Nat}{e:TypeId}{d:Array α}(h:w.ownsRow base e k (.slice (some ⟨g,0,none⟩) n c) n (d.toList.flatMap enc))(hd:d.size=n):HoldsK enc k w g 0 d/\g<w.heap.size/\base<=g:=by
 have hc:=h.cells (g:=g) rfl
 have hl:=h.lt g rfl
 refine⟨fun j hj=>?_,hl.2,hl.1⟩
 rw[size_flatK]at hj
 rw[get_flatK _ _ _ _ hj]
 have h1:j / k<d.size:=by rw[Nat.div_lt_iff_lt_mul hk0];exact hj
 have h2:j % k<k:=Nat.mod_lt _ hk0
 have h3:=Ko hk d.toList (j / k) (j % k) (by simpa using h1) h2
 rw[Nat.div_add_mod']at h3
 have e1:(enc d.toList[j / k])[j % k]?=some ((enc d[j / k]!)[j % k]!):=by
  rw[getElem!_pos d (j / k) h1,getElem!_pos _ (j % k) (by rw[hk];exact h2)]
  simp[hk,h2]
 rw[e1]at h3
 have h4:=hc j _ h3
 rw[Addr.add_lit]at h4
 refine⟨h4,?_⟩
 rcases h.2 with⟨h0,_⟩|⟨g2,cap,cur,hv,hb,hg,_⟩
 ·cases h0
 injection hv with e1 e2 e3
 injection e1 with e1
 injection e1 with e1
 subst e1
 simp[World.frozen?,hg]
theorem Qg9{α:Type}[Inhabited α]{enc:α->List Value}{k:Nat}(hk:∀x,(enc x).length=k)(hk0:0<k){w:World}{g:Nat}{d:Array α}(h:HoldsK enc k w g 0 d)(hg:g<w.heap.size)(hm:d.size*k<=maxLen):Bh w (some ⟨g,0,none⟩) (d.size*k) (d.toList.flatMap enc):=by
 refine⟨by rw[Ji hk];simp,hm,fun _=>⟨g,0,rfl,hg,fun j u hj=>?_⟩⟩
 have hl:=(List.getElem?_eq_some_iff.1 hj).1
 rw[Ji hk]at hl
 have hl:j<d.size*k:=by simpa using hl
 have h1:j / k<d.size:=by rw[Nat.div_lt_iff_lt_mul hk0];exact hl
 have h2:j % k<k:=Nat.mod_lt _ hk0
 have h3:=Ko hk d.toList (j / k) (j % k) (by simpa using h1) h2
 rw[Nat.div_add_mod',hj]at h3
 have h4:=(h.cell (i:=j / k) (c:=j % k) h1 h2).1
 rw[Nat.zero_add,Nat.div_add_mod']at h4
 rw[Nat.zero_add,h4,h3,getElem!_pos d (j / k) h1,getElem!_pos _ (j % k) (by rw[hk];exact h2)]
 simp[hk,h2]
theorem Rv{α:Type}[Inhabited α](enc:α->List Value)(k:Nat)(w:World)(n blk:Nat)(d:Array α)(os:Array Obj):w.grownBy (sortWorldK enc k w blk 0 n d os) (some blk):=by
 unfold sortWorldK putRowK
 refine⟨rfl,rfl,rfl,by simp,fun j hj hne=>?_⟩
 rw[heap_grow_old _ _ (by simpa using hj)]
 have:blk≠j:=fun e=>hne (by rw[e])
 simp[putRow,mapBlock,Array.getElem?_modify,this]
def Xt(B:Nat):Value:=.func (.func 75) #[] #[.pointer (some ⟨B,0,none⟩)]
theorem Qgs(A:Option Addr)(c B:Nat)(w:World):Calls prog 140 #[.slice A 0 c,.int .i64 0,.int .i64 0,Xt B] w fun e w'=>e=.returned (.tuple #[])/\w'=w:=by
 go_enter func140,ntmps140
 go_wp2_with fail
 refine wp_loop_rounds 1 ?_
 rw[rounds_succ]
 go_wp2_with fail
 apply bodyPost_end
 rotate_left
 ·rfl
 ·exact⟨rfl,rfl⟩
 exact results_none (by kernel_rfl) _ _ _
theorem Qgd(A:Option Addr)(c B:Nat)(m:Int)(w:World):Calls prog 111 #[.slice A 0 c,.int .i64 0,.int .i64 0,.int .i64 m,Xt B] w fun e w'=>e=.returned (.tuple #[])/\w'=w:=by
 go_enter func111,ntmps111
 go_wp2_with fail
 refine wp_loop_rounds 1 ?_
 rw[rounds_succ]
 go_wp2_with fail
 refine(Qgs A c B _).mono ?_
 rintro e w1 ⟨rfl,rfl⟩
 go_wp2_with fail
 refine bodyPost_ret (results_none (by kernel_rfl) _ _ _) rfl ?_
 exact⟨rfl,rfl⟩
theorem Qea(A:Option Addr)(c B:Nat)(w:World):Calls prog 74 #[.slice A 0 c,Xt B] w fun e w'=>e=.returned (.tuple #[])/\w'=w:=by
 go_enter func74,ntmps74
 go_wp2_with fail
 refine(Any.bits_Len Tryz.lays125 0 _ (by omega) (by omega)).mono ?_
 rintro e w1 ⟨rfl,rfl⟩
 go_wp2_with fail
 refine(Qgd A c B _ _).mono ?_
 rintro e w1 ⟨rfl,rfl⟩
 go_wp2_with fail
 go_end0
 exact⟨rfl,rfl⟩
theorem Tryz.infoVl:(prog.info? 42).map (fun i=>(i.zero,i.size,i.bytes))=some (some (.agg #[.int .u8 0,.string ⟨#[]⟩,.int .i64 0,.slice none 0 0]),4,56):=by kernel_rfl
theorem Za(A:Option Addr)(c:Nat)(w:World):Calls prog 73 #[.slice A 0 c] w fun e w'=>(∃A' c',e=.returned (.slice A' 0 c'))/\Below w.heap.size w w':=by
 have q22:∀(w:World) (a:Option Addr) (n c n' c':Nat),(binOp .eql 40 (.slice a n c) (.slice none n' c')).run prog w=.ok (.bool a.isNone) w:=fun w a n c n' c'=>Lib.run_eql_slice_nil w _ _ a n c n' c' underlying40
 cases A with
 |none=>
  go_enter func73,ntmps73
  go_wp2_with fail
  go_ret
  exact⟨⟨_,_,rfl⟩,As _ _⟩
 |some a=>
  obtain⟨i0,hi,hz0,hz1,hz2⟩:=info_parts Tryz.infoVl
  go_enter func73,ntmps73
  go_wp2_with (at_builtin;refine wpList_append_own _ rfl _ _ 40 rfl w.heap.size 42 i0 _ 4 56 underlying40 hi hz0 hz1 hz2 rfl (by decide) _ 0 [] rfl (World.ownsRow_made w #[] 0 (Ap _) (Nat.zero_le _) (by simp)) a 0 c [] rfl rfl (by simp) (by simp) (by decide) (by decide) (by simp) ?_;intro v' w1 hown hgrow hnil)
  go_ret
  refine⟨?_,((As _ w).alloc (Ap _) _).grown hgrow (by simp) (fun k hk=>Nat.le_of_eq (show w.heap.size=k by injection hk))⟩
  rcases hown.2 with⟨rfl,_⟩|⟨g,cap,cur,rfl,_⟩
  ·exact⟨_,_,rfl⟩
  exact⟨_,_,rfl⟩
theorem Sg{α:Type}(key:α->List UInt8)(x y:α):ltOf (fun x y:α=>Vc (key x) (key y)) x y=decide (key x<key y):=by
 unfold ltOf Vc
 by_cases h:key x<key y
 ·simp[h]
 by_cases h2:key y<key x<;>simp[h,h2]
theorem Qe5{α:Type}(key:α->List UInt8):SWO (ltOf fun x y:α=>Vc (key x) (key y)):=by
 refine⟨fun x=>by rw[Sg];simp[List.lt_irrefl],fun x y z h1 h2=>?_,fun x y z h1 h2=>?_⟩
 ·rw[Sg]at *
  simp at *
  exact List.lt_trans h1 h2
 rw[Sg]at *
 simp at *
 exact List.le_trans h2 h1
theorem Qa3(w0 w1:World)(x:PT)(hx:Qv w0 x)(Bp:Nat)(hB:w0.cell? ⟨Bp,0,none⟩=some (.pointer (some ⟨x.blk,0,none⟩)))(hBl:Bp<w0.heap.size)(hb1:Below w0.heap.size w0 w1)(nm:Nat->List UInt8)(xs:List (Vl × Value))(hn:∀y∈xs,y.1.tag<=1000000000/\(∃f,Bg x.ty.fields y.1.tag=some f/\f.name=nm y.1.tag)/\∃A n c,y.2=.slice A n c)
  (hd:∀a∈xs,∀b∈xs,nm a.1.tag=nm b.1.tag->a=b) (h12:xs.length<=12) (h0:0<xs.length) (g c:Nat) (hown:w1.ownsRow w0.heap.size 42 4 (.slice (some ⟨g,0,none⟩) xs.length c) xs.length (xs.flatMap Jk)):
  Calls prog 74 #[.slice (some ⟨g,0,none⟩) xs.length c,Xt Bp] w1 fun e w'=>e=.returned (.tuple #[])/\Bh w' (some ⟨g,0,none⟩) (xs.length*4) ((Ex (fun y=>nm y.1.tag) xs).flatMap Jk)/\w1.grownBy w' (some g):=by
 obtain⟨x0,hx0⟩:∃x0,x0∈xs:=List.exists_mem_of_length_pos h0
 haveI:Inhabited {y:Vl × Value // y∈xs}:=⟨⟨x0,hx0⟩⟩
 let enc:{y:Vl × Value // y∈xs}->List Value:=fun y=>Jk y.1
 have henc:∀y,(enc y).length=4:=fun y=>rfl
 have hh:xs.flatMap Jk=(xs.attach.toArray).toList.flatMap enc:=by
  show _=xs.attach.flatMap (fun y=>Jk y.1)
  rw[show xs.attach.flatMap (fun y=>Jk y.1)=(xs.attach.map Subtype.val).flatMap Jk by rw[List.flatMap_map],List.attach_map_subtype_val]
 have hown':=hown
 rw[hh]at hown'
 obtain⟨q1,q2,q3⟩:=Qbd (d:=xs.attach.toArray) henc (by decide) hown' (by simp)
 have hcmp:CmpLays prog 75 #[.pointer (some ⟨Bp,0,none⟩)] enc 4 (fun a b=>Vc (nm a.1.1.tag) (nm b.1.1.tag)) g 0 xs.attach.toArray.size w1:=by
  intro m os dk hdk a b
  obtain⟨ha1,⟨f,hf,hfn⟩,hal⟩:=hn a.1 a.2
  obtain⟨hb1',⟨f2,hf2,hfn2⟩,hbl⟩:=hn b.1 b.2
  have hW:Below w0.heap.size w0 (sortWorldK enc 4 w1 g 0 m dk os):=hb1.grown (Rv enc 4 w1 m g dk os) hb1.size (fun k hk=>by injection hk with hk;omega)
  refine(Qho w0 x hx Bp hB hBl a.1 b.1 f f2 ha1 hb1' hf hf2 _ hW hal hbl).mono ?_
  rintro e w' ⟨he,q,hw⟩
  refine⟨by rw[he,hfn,hfn2],q,#[.cells (Jk a.1).toArray 42]++#[.cells (Jk b.1).toArray 42],?_⟩
  rw[hw,alloc_eq_grow,alloc_eq_grow,grow_grow]
  rfl
 have hS:=AnyQ.slices_SortFunc_small_sorted Tryz.laysF6 4 isAgg42 sizeOf42 enc henc (fun y v hv=>by
  obtain⟨_,_,A,n,c,e⟩:=hn y.1 y.2
  simp only[enc,Jk,List.mem_cons,List.not_mem_nil,or_false]at hv
  rcases hv with rfl|rfl|rfl|rfl
  ·rfl
  ·rfl
  ·rfl
  ·rw[e];rfl) (fun a b=>Vc (nm a.1.1.tag) (nm b.1.1.tag)) 75 #[.pointer (some ⟨Bp,0,none⟩)] (Qe5 fun a:{y:Vl × Value // y∈xs}=>nm a.1.1.tag) g 0 c xs.attach.toArray w1
  (enters_of func75 (by kernel_rfl) rfl) hcmp q1 q2 (by simpa using h12) (fun n W hn=>(Any.bits_Len Tryz.lays125 n W (by omega) (by omega)).mono fun e w' ⟨h1,h2⟩=>⟨⟨_,h1⟩,h2⟩)
 rw[show xs.attach.toArray.size=xs.length by simp]at hS
 refine hS.mono ?_
 rintro e w' ⟨rfl,d',n,os,hP,hSo,rfl⟩
 have hz:d'.size=xs.length:=by have:=hP.1;simpa using this
 have hperm:(d'.toList.map Subtype.val).Perm xs:=by
  have h2:=hP.2.2
  rw[<-hz]at h2
  rw[show d'.extract 0 d'.size=d' by simp,show xs.attach.toArray.extract 0 d'.size=xs.attach.toArray by rw[hz];simp;exact List.take_of_length_le (by simp)]at h2
  have h3:=h2.map Subtype.val
  rw[show xs.attach.toArray.toList=xs.attach from rfl,List.attach_map_subtype_val]at h3
  exact h3
 have hsorted:(d'.toList.map Subtype.val).Pairwise fun a b=>nm a.1.tag<=nm b.1.tag:=by
  rw[List.pairwise_iff_getElem]
  intro i j hi hj hij
  simp at hi hj
  have h2:=hSo i j (Nat.zero_le _) hij (by omega)
  rw[getElem!_pos d' j (by omega),getElem!_pos d' i (by omega)]at h2
  simp only[List.getElem_map,Array.getElem_toList]
  rw[Sg (fun a:{y:Vl × Value // y∈xs}=>nm a.1.1.tag)]at h2
  exact List.not_lt.1 (by simpa using h2)
 have hus:=Qd1 (fun y:Vl × Value=>nm y.1.tag) hperm hsorted hd
 have hH:=holdsK_sortWorldK_c enc 4 w1 g 0 xs.attach.toArray d' n os q1 q2 (by simpa using hz)
 have hgl:g<(sortWorldK enc 4 w1 g 0 n d' os).heap.size:=Nat.lt_of_lt_of_le q2 (size_sortWorldK_c enc 4 w1 g 0 n d' os)
 have hrow:=Qg9 (k:=4) henc (by decide) hH hgl (by rw[hz];unfold maxLen;omega)
 rw[hz,show d'.toList.flatMap enc=(d'.toList.map Subtype.val).flatMap Jk by rw[List.flatMap_map],hus]at hrow
 exact⟨rfl,hrow,Rv enc 4 w1 n g d' os⟩
theorem Qh3{P:Nat->Prop}{w:World}{xs:List (Vl × Value)}(h:∀x∈xs,D8 P w x.2 x.1.kids):∀u∈xs.flatMap Jk,u.oneCell'=true:=by
 intro u hu
 obtain⟨x,hx,hu⟩:=List.mem_flatMap.1 hu
 obtain⟨A,c,e⟩:=(h x hx).form
 unfold Jk at hu
 simp only[List.mem_cons,List.not_mem_nil,or_false]at hu
 rcases hu with rfl|rfl|rfl|rfl
 ·rfl
 ·rfl
 ·rfl
 rw[e];rfl
theorem Zn(A:Option Addr)(c:Nat)(P:Nat->Prop)(xs:List (Vl × Value))(w:World)(h0:0<xs.length)(hl:xs.length<=1000)(hr:Bh w A (xs.length*4) (xs.flatMap Jk))(h:∀x∈xs,D8 P w x.2 x.1.kids):
  Calls prog 73 #[.slice A xs.length c] w fun e w'=>(∃g c',e=.returned (.slice (some ⟨g,0,none⟩) xs.length c')/\w'.ownsRow w.heap.size 42 4 (.slice (some ⟨g,0,none⟩) xs.length c') xs.length (xs.flatMap Jk))/\Below w.heap.size w w':=by
 obtain⟨b,off,rfl,_,hc⟩:=hr.2.2 (by omega)
 obtain⟨i0,hi,hz0,hz1,hz2⟩:=info_parts Tryz.infoVl
 refine(AnyE.slices_Clone Tryz.laysE41 i0 _ 4 56 hi hz0 hz1 hz2 rfl (by decide) sizeOf42 b off xs.length c (xs.flatMap Jk) w (Ji Ys xs) (by unfold maxLen;omega) (by omega) hc (Qh3 h)).mono ?_
 rintro e w' ⟨v',rfl,ho,hnz,hb⟩
 refine⟨?_,hb⟩
 rcases ho.2 with⟨rfl,h1⟩|⟨g,cap,cur,rfl,_⟩
 ·omega
 exact⟨g,cap,rfl,ho⟩
theorem Qaw(w:World)(x:PT)(hx:Qv w x)(v:Vl)(P:Nat->Prop)(sl:Value)(hsl:D8 P w sl v.kids)(nm:Nat->List UInt8)(hn:∀y∈v.kids,y.tag<=1000000000/\∃f,Bg x.ty.fields y.tag=some f/\f.name=nm y.tag)
  (hd:v.kids.Pairwise fun a b=>nm a.tag≠nm b.tag) (h12:v.kids.length<=12):
  Calls prog 40 #[x.ptr,G1 v sl] w fun e w'=>∃sl',e=.returned sl'/\D8 (fun c=>P c\/w.heap.size<=c) w' sl' (Ex (fun y=>nm y.tag) v.kids)/\Below w.heap.size w w':=by
 obtain⟨A,c,xs,rfl,hk,hl,hr,hP,hs⟩:=hsl
 obtain⟨w2,hw2⟩:∃w2,w2=(w.alloc (.cells #[.pointer (some ⟨x.blk,0,none⟩)] 76)).alloc (.cells #[.int .u8 (v.what.toNat:Int),.string ⟨v.text.toArray⟩,.int .i64 (v.tag:Int),.slice A xs.length c] 42):=⟨_,rfl⟩
 have hb2:Below w.heap.size w w2:=by rw[hw2];exact((As _ _).alloc (Ap _) _).alloc (by simp) _
 have x0:w2.cell? ⟨w.heap.size,0,none⟩=some (.pointer (some ⟨x.blk,0,none⟩)):=by rw[hw2];simp[go_sem]
 have x1:w2.cell? ⟨w.heap.size+1,3,none⟩=some (.slice A xs.length c):=by rw[hw2];simp[go_sem]
 have l0:w.heap.size+1<w2.heap.size:=by rw[hw2];simp
 have Hw2:=Aa hw2
 have Hb2:=Aa hb2
 have Hx2:=Aa (hx.below hb2)
 have Hr2:=Aa (hr.below hb2)
 have Hs:=Aa hs
 have HK:=Aa hk
 have Hn:=Aa hn
 have Hd:=Aa hd
 have e12:xs.length<=12:=by rw[hk]at h12;simpa [Av]using h12
 clear hw2 hb2 hx hr hs hn hd hP hk h12
 unfold PT.ptr G1
 go_enter func40,ntmps40
 go_wp2_with fail
 generalize hwg:World.alloc (World.alloc w _) _=wg
 obtain rfl:w2=wg:=Hw2.o.trans hwg
 clear hwg
 by_cases h0:0<xs.length
 ·refine(Zn A c P xs w2 h0 hl Hr2.o fun y hy=>(Hs.o y hy).after Hb2.o).mono ?_
  rintro e w3 ⟨⟨g,c3,rfl,ho⟩,hb3⟩
  have Ho:=Aa ho
  have Hb3:=Aa hb3
  have y0:w3.cell? ⟨w.heap.size,0,none⟩=some (.pointer (some ⟨x.blk,0,none⟩)):=(hb3.cell (p:=⟨w.heap.size,0,none⟩) (by show w.heap.size<_;omega)).trans x0
  clear ho hb3
  go_wp2_with fail
  refine(Qa3 w2 w3 x Hx2.o w.heap.size x0 (by omega) Hb3.o nm xs ?_ ?_ e12 h0 g c3 Ho.o).mono ?_
  ·intro y hy
   obtain⟨h1,h2⟩:=Hn.o y.1 (by rw[HK.o];exact List.mem_map.2 ⟨y,hy,rfl⟩)
   obtain⟨A5,c5,e5⟩:=(Hs.o y hy).form
   exact⟨h1,h2,A5,_,c5,e5⟩
  ·intro a ha b hb e
   have hd:=Hd.o
   rw[HK.o,Av,List.pairwise_map]at hd
   obtain⟨i,hi,rfl⟩:=List.getElem_of_mem ha
   obtain⟨j,hj,rfl⟩:=List.getElem_of_mem hb
   rw[List.pairwise_iff_getElem]at hd
   rcases Nat.lt_trichotomy i j with h1|h1|h1
   ·exact absurd e (hd i j hi hj h1)
   ·subst h1;rfl
   exact absurd e.symm (hd j i hj hi h1)
  rintro e w4 ⟨rfl,hrow,hg⟩
  have hgl:=(Ho.o.lt g rfl).1
  have hb4:Below w.heap.size w w4:=(Hb2.o.trans (Hb3.o.mono Hb2.o.size)).grown hg (Nat.le_trans Hb2.o.size Hb3.o.size) (fun k hk=>by injection hk with hk;have:=Hb2.o.size;omega)
  have hperm:=Gr (fun y:Vl × Value=>nm y.1.tag) xs
  have hfin:D8 (fun c=>P c\/w.heap.size<=c) w4 (.slice (some ⟨g,0,none⟩) xs.length c3) (Ex (fun y=>nm y.tag) v.kids):=by
   refine .mk (some ⟨g,0,none⟩) c3 (Ex (fun y=>nm y.1.tag) xs) (by rw[hperm.length_eq]) ?_ (by rw[hperm.length_eq];exact hl) (by rw[hperm.length_eq];exact hrow) (fun g2 o _ e=>?_) fun y hy=>?_
   ·rw[HK.o]
    exact Qav (fun y:Vl × Value=>nm y.1.tag) (fun y:Vl=>nm y.tag) (·.1) (fun _=>rfl) xs
   ·injection e with e
    injection e with e
    subst e
    exact .inr (Nat.le_trans Hb2.o.size hgl)
   exact((Hs.o y (hperm.mem_iff.1 hy)).after hb4).mono fun b hb _=>.inl hb
  have Hf:=Aa hfin
  have Hb4:=Aa hb4
  clear hfin hb4 hrow hg hperm Ho
  go_wp2_with fail
  go_ret
  exact⟨_,rfl,Hf.o,Hb4.o⟩
 obtain rfl:xs=[]:=List.eq_nil_of_length_eq_zero (by omega)
 have HK2:=Aa (show Ex (fun y=>nm y.tag) v.kids=[]by rw[HK.o];rfl)
 refine(Za A c w2).mono ?_
 rintro e w3 ⟨⟨A3,c3,rfl⟩,hb3⟩
 have Hb3:=Aa hb3
 clear hb3
 go_wp2_with fail
 refine(Qea A3 c3 w.heap.size w3).mono ?_
 rintro e w4 ⟨rfl,rfl⟩
 go_wp2_with fail
 go_ret
 refine⟨_,rfl,?_,Hb2.o.trans (Hb3.o.mono Hb2.o.size)⟩
 rw[HK2.o]
 exact .mk A3 c3 [] rfl rfl (by simp) ⟨rfl,Nat.zero_le _,fun h=>absurd h (by simp)⟩ (fun _ _ h=>absurd h (by simp)) (by simp)
end
theorem Tryz.xtraJ:Builder.Extra prog Tryz.lays156_ren where
 sizeBuilder:=by kernel_rfl
 liesBuilder:=by kernel_rfl
 t5:=underlying5
 a5:=isAgg5
 z5:=sizeOf5
 v5:=zeroValue5
 infoByte:=by kernel_rfl
 cellsByte:=by kernel_rfl
 sizeByte:=by kernel_rfl
 neB5:=by decide
theorem Tq(c:UInt8):∀ps:List (List UInt8),Lib.join ps [c]=Ak c ps
 |[]=>rfl
 |[p]=>by rw[Lib.join_one];rfl
 |p::q::r=>by
  have ih:=Tq c (q::r)
  rw[Ch c p (by simp),<-ih,Lib.join_cons p,Lib.join_cons q]
  simp[Lib.joinTail]
theorem Qcr(ps:List (List UInt8)):ps.length<=Cu ps:=by
 induction ps with
 |nil=>exact Ap _
 |cons p ps ih=>rw[Cv,List.length_cons];omega
theorem Qgb(sep:List UInt8)(A:Option Addr)(c:Nat)(ps:List (List UInt8))(w:World)(hr:Bh w A ps.length (Ae ps))(hcp:ps.length<=c)(hl:Cu ps<=2000000)(hj:(Lib.join ps sep).length<=2000000):
  Calls prog 37 #[.slice A ps.length c,.string ⟨sep.toArray⟩] w fun e w'=>e=.returned (.string ⟨(Lib.join ps sep).toArray⟩)/\Below w.heap.size w w':=by
 by_cases h0:ps.length=0
 ·have e0:ps=[]:=List.length_eq_zero_iff.1 h0
  subst e0
  exact(Any.strings_Join_none Tryz.lays156 Tryz.xtraJ A c ⟨sep.toArray⟩ w).mono fun e w' ⟨he,hw⟩=>⟨he,hw ▸ As _ _⟩
 have hpl:=Qcr ps
 obtain⟨hlc,_,hrow⟩:=hr
 obtain⟨b,off,rfl,hb,hcl⟩:=hrow (by omega)
 have e1:(ps.map fun p=>(⟨p.toArray⟩:ByteArray)).map (·.data.toList)=ps:=by rw[List.map_map];exact List.map_id ps
 have h:=Any.strings_Join Tryz.lays156 Tryz.xtraJ b off c (ps.map fun p=>(⟨p.toArray⟩:ByteArray)) ⟨sep.toArray⟩ w (fun j x hx=>by
  rw[List.getElem?_map]at hx
  obtain⟨p,hp,rfl⟩:=Option.map_eq_some_iff.1 hx
  exact hcl j _ (by rw[Ae,List.getElem?_map,hp];rfl)) hb (by rw[List.length_map];omega) (by rw[List.length_map];exact hcp) (by rw[e1];show (Lib.join ps sep).length<=_;omega)
 rw[e1,List.length_map]at h
 exact h
theorem Qbh(s:UInt8)(A:Option Addr)(c:Nat)(ps:List (List UInt8))(w:World)(hr:Bh w A ps.length (Ae ps))(hcp:ps.length<=c)(hl:Cu ps<=2000000):
  Calls prog 37 #[.slice A ps.length c,.string ⟨#[s]⟩] w fun e w'=>e=.returned (.string ⟨(Ak s ps).toArray⟩)/\Below w.heap.size w w':=by
 have:=Qgb [s] A c ps w hr hcp hl (by rw[Tq,Bb];omega)
 rwa [Tq]at this
theorem Qii(A:Option Addr)(c:Nat)(ps:List (List UInt8))(w:World)(hr:Bh w A ps.length (Ae ps))(hcp:ps.length<=c)(hl:Cu ps<=2000000):
  Calls prog 37 #[.slice A ps.length c,.string ⟨#[44]⟩] w fun e w'=>e=.returned (.string ⟨(Ak 44 ps).toArray⟩)/\Below w.heap.size w w':=Qbh 44 A c ps w hr hcp hl
section
attribute [local go_sem] Qja Qit Qib Qgw ByteArray.mk_append_mk
def Fs(w:World)(b:Nat)(p:Value)(t:List UInt8)(bad:Bool):Prop:=b<w.heap.size/\Py w b/\w.cell? ⟨b,0,none⟩=some p/\w.cell? ⟨b,1,none⟩=some (.string ⟨t.toArray⟩)/\w.cell? ⟨b,2,none⟩=some (.bool bad)
theorem Py.live{w:World}{b:Nat}(h:Py w b)(o:Nat):w.frozen? ⟨b,o,none⟩=false:=by
 obtain⟨cs,t,h⟩:=h
 simp[World.frozen?,h]
theorem Fs.far{w w':World}{b:Nat}{p:Value}{t:List UInt8}{bad:Bool}(h:Fs w b p t bad){B:Nat}(hb:Below B w w')(hB:b<B):Fs w' b p t bad:=by
 obtain⟨h0,h1,h2,h3,h4⟩:=h
 exact⟨Nat.lt_of_lt_of_le h0 hb.size,h1.belowAt hB hb,(hb.cell (p:=⟨b,0,none⟩) hB).trans h2,(hb.cell (p:=⟨b,1,none⟩) hB).trans h3,(hb.cell (p:=⟨b,2,none⟩) hB).trans h4⟩
theorem Fs.drew{w:World}{b:Nat}{p:Value}{t:List UInt8}{bad:Bool}(h:Fs w b p t bad)(k:Nat):Fs (w.drewN k) b p t bad:=h.far (below_drewN (As w.heap.size w) k) h.1
theorem Fs.setBad{w:World}{b:Nat}{p:Value}{t:List UInt8}{bad:Bool}(h:Fs w b p t bad)(x:Bool):Fs (w.setCell ⟨b,2,none⟩ (.bool x)) b p t x:=by
 obtain⟨h0,h1,h2,h3,h4⟩:=h
 have hf:=h1.live 2
 exact⟨by simpa using h0,h1.set _,by simp[go_sem,h2],by simp[go_sem,h3],by simp[go_sem,h4,hf]⟩
theorem Fs.setText{w:World}{b:Nat}{p:Value}{t:List UInt8}{bad:Bool}(h:Fs w b p t bad)(x:List UInt8):Fs (w.setCell ⟨b,1,none⟩ (.string ⟨x.toArray⟩)) b p x bad:=by
 obtain⟨h0,h1,h2,h3,h4⟩:=h
 have hf:=h1.live 1
 exact⟨by simpa using h0,h1.set _,by simp[go_sem,h2],by simp[go_sem,h3,hf],by simp[go_sem,h4]⟩
theorem Qbp(w:World)(a:Addr)(v:Value):w.grownBy (w.setCell a v) (some a.block):=
 ⟨rfl,rfl,rfl,by simp,fun k _ hk=>Go.heap_setCell_other _ _ _ _ (fun e=>hk (by rw[e]))⟩
theorem Bc(w:World)(b o:Nat)(v:Value):w.grownBy (w.setCell ⟨b,o,none⟩ v) (some b):=Qbp w ⟨b,o,none⟩ v
theorem Jm(b:Nat):∀(vs:List Value) (o:Nat) (w:World),w.grownBy (w.setCells b o vs) (some b)
 |[],_,w=>World.grownBy.refl _ _
 |v::r,o,w=>(Bc w b o v).trans (Jm b r (o+1) _)
theorem Cp{w w':World}(h:Below w.heap.size w w')(row:Option Nat):w.grownBy w' row:=⟨h.os,h.tape,h.output,h.size,fun k hk _=>h.block k hk⟩
theorem Xo(p s:List UInt8):E5 p s=if p.isPrefixOf s=true then some (s.drop p.length)else none:=by
 by_cases h:p.isPrefixOf s=true
 ·rw[if_pos h]
  rw[List.isPrefixOf_iff_prefix]at h
  obtain⟨t,rfl⟩:=h
  rw[Fb];simp
 rw[if_neg h]
 cases e:E5 p s with
 |none=>rfl
 |some r=>
  rw[Fb]at e
  subst e
  exact absurd (by simp) h
theorem Qdl(c:UInt8)(s:List UInt8):E5 [c] s=Am c s:=by
 unfold E5
 cases Am c s<;>rfl
def cpV(s:List UInt8):Option (List UInt8)->Value
 |some r=>.tuple #[.string ⟨r.toArray⟩,.bool true]
 |none=>.tuple #[.string ⟨s.toArray⟩,.bool false]
theorem Sp(s p:List UInt8)(w:World)(hs:s.length<=4000000):
  Calls prog 129 #[.string ⟨s.toArray⟩,.string ⟨p.toArray⟩] w fun e w'=>e=.returned (cpV s (E5 p s))/\∃k,w'=w.drewN k:=by
 have HW:=Aa (Xo p s)
 have Hp:=Aa (fun W=>Tm s p W)
 by_cases h:p.isPrefixOf s=true
 ·have HW2:=Aa (HW.o.trans (if_pos h))
  have hl:p.length<=s.length:=by rw[List.isPrefixOf_iff_prefix]at h;exact h.length_le
  have h1:(p.length:Int)<=(s.length:Int):=by omega
  have h2:(0:Int)<=(p.length:Int):=by omega
  rw[h]at Hp
  clear h HW
  go_enter func129,ntmps129
  go_wp2_with fail
  refine(Hp.o _).mono ?_
  rintro e w1 ⟨rfl,rfl⟩
  go_wp2_with fail
  go_ret2
  exact⟨by rw[HW2.o];rfl,0,rfl⟩
 have HW2:=Aa (HW.o.trans (if_neg h))
 have h':p.isPrefixOf s=false:=Bool.eq_false_iff.2 h
 rw[h']at Hp
 clear h h' HW
 go_enter func129,ntmps129
 go_wp2_with fail
 refine(Hp.o _).mono ?_
 rintro e w1 ⟨rfl,rfl⟩
 go_wp2_with fail
 go_ret2
 exact⟨by rw[HW2.o];rfl,0,rfl⟩
theorem Vn(s p:List UInt8)(w:World)(hs:s.length<=4000000):
  Calls prog 96 #[.string ⟨s.toArray⟩,.string ⟨p.toArray⟩] w fun e w'=>e=.returned (cpV s (E5 p s))/\∃k,w'=w.drewN k:=by
 have Hp:=Aa (fun W=>Sp s p W hs)
 cases hw:E5 p s with
 |none=>
  rw[hw]at Hp
  clear hw
  go_enter func96,ntmps96
  go_wp2_with fail
  refine(Hp.o _).mono ?_
  rintro e w1 ⟨rfl,k,rfl⟩
  unfold cpV
  go_wp2_with fail
  go_ret2
  exact⟨rfl,k,rfl⟩
 |some r=>
  rw[hw]at Hp
  clear hw
  go_enter func96,ntmps96
  go_wp2_with fail
  refine(Hp.o _).mono ?_
  rintro e w1 ⟨rfl,k,rfl⟩
  unfold cpV
  go_wp2_with fail
  go_ret2
  exact⟨rfl,k,rfl⟩
def C4(w:World)(b:Nat)(p:Value)(t:List UInt8)(bad:Bool)(w':World):Prop:=Fs w' b p t bad/\w.grownBy w' (some b)
def Ax(lead t:List UInt8)(bad:Bool):Option (List UInt8):=if bad then none else E5 lead t
theorem Jb(b:Nat)(p:Value)(t lead:List UInt8)(bad:Bool)(w:World)(h:Fs w b p t bad)(hl:t.length<=4000000):
  Calls prog 56 #[.pointer (some ⟨b,0,none⟩),.string ⟨lead.toArray⟩] w fun e w'=>
   e=.returned (.bool (Ax lead t bad).isSome)/\C4 w b p ((Ax lead t bad).getD t) bad w':=by
 have Hp:=Aa (fun W=>Vn t lead W hl)
 have HT:=Aa (show Ax lead t bad=if bad then none else E5 lead t from rfl)
 have HS:=Aa h
 obtain⟨h0,h1,h2,h3,h4⟩:=h
 have hfz:=h1.live 1
 clear h1
 cases hw:E5 lead t with
 |none=>
  have HT2:=Aa (show Ax lead t bad=none by rw[HT.o,hw];cases bad<;>rfl)
  rw[hw]at Hp
  clear hw HT
  go_enter func56,ntmps56
  go_wp2_with fail
  refine(Hp.o _).mono ?_
  rintro e w1 ⟨rfl,k,rfl⟩
  unfold cpV
  go_wp2_with fail
  go_ret
  exact⟨by rw[HT2.o];rfl,by rw[HT2.o];exact⟨HS.o.drew k,Cp (below_drewN (As _ _) k) _⟩⟩
 |some r=>
  rw[hw]at Hp
  cases bad with
  |true=>
   have HT2:=Aa (show Ax lead t true=none from rfl)
   clear hw HT
   go_enter func56,ntmps56
   go_wp2_with fail
   refine(Hp.o _).mono ?_
   rintro e w1 ⟨rfl,k,rfl⟩
   unfold cpV
   go_wp2_with fail
   go_ret
   exact⟨by rw[HT2.o];rfl,by rw[HT2.o];exact⟨HS.o.drew k,Cp (below_drewN (As _ _) k) _⟩⟩
  |false=>
   have HT2:=Aa (show Ax lead t false=some r from HT.o.trans hw)
   clear hw HT
   go_enter func56,ntmps56
   go_wp2_with fail
   refine(Hp.o _).mono ?_
   rintro e w1 ⟨rfl,k,rfl⟩
   unfold cpV
   go_wp2_with fail
   go_ret
   exact⟨by rw[HT2.o];rfl,by rw[HT2.o];exact⟨(HS.o.drew k).setText r,(Cp (below_drewN (As _ _) k) _).trans (Bc _ _ _ _)⟩⟩
theorem C0(b:Nat)(p:Value)(t lead:List UInt8)(bad:Bool)(w:World)(h:Fs w b p t bad)(hl:t.length<=4000000):
  Calls prog 55 #[.pointer (some ⟨b,0,none⟩),.string ⟨lead.toArray⟩] w fun e w'=>
   e=.returned (.tuple #[])/\C4 w b p ((Ax lead t bad).getD t) (Ax lead t bad).isNone w':=by
 have Hp:=Aa (Jb b p t lead bad w h hl)
 have HB:=Aa (show ∀r,Ax lead t bad=some r->bad=false by intro r h;cases bad;rfl;cases h)
 generalize Ax lead t bad=o at Hp HB ⊢
 cases o with
 |some r=>
  obtain rfl:=HB.o r rfl
  go_enter func55,ntmps55
  go_wp2_with fail
  refine Hp.o.mono ?_
  rintro e w1 ⟨rfl,hs⟩
  have HS:=Aa hs
  clear hs
  go_wp2_with fail
  go_end0
  exact⟨rfl,HS.o⟩
 |none=>
  go_enter func55,ntmps55
  go_wp2_with fail
  refine Hp.o.mono ?_
  rintro e w1 ⟨rfl,hs⟩
  have HS:=Aa hs
  obtain⟨⟨h0,h1,_,_,h4⟩,_⟩:=hs
  have hfz:=h1.live 2
  clear h1
  go_wp2_with fail
  go_end0
  exact⟨rfl,HS.o.1.setBad true,HS.o.2.trans (Bc _ _ _ _)⟩
inductive Bd:Vl->Prop
 |mk {w:UInt8} {tx:List UInt8} {tg:Nat} {ks:List Vl} (h1:tg<=1000000000) (h2:Cu (ks.map Az)<=1000000) (h3:tx.length<=1000000) (h:∀x∈ks,Bd x):Bd (.mk w tx tg ks)
theorem H8{w:World}{base k n:Nat}{e:TypeId}{v:Value}{xs:List Value}(h:w.ownsRow base e k v n xs):∃A m c,v=.slice A m c:=by
 rcases h.2 with⟨rfl,_⟩|⟨g,cap,cur,rfl,_⟩
 ·exact⟨_,_,_,rfl⟩
 exact⟨_,_,_,rfl⟩
theorem Sk{w:World}{base n m c:Nat}{e:TypeId}{A:Option Addr}{xs:List Value}(h:w.ownsRow base e 1 (.slice A m c) n xs):m=n/\n<=c\/n=0/\m=0:=by
 rcases h.2 with⟨e,h0⟩|⟨g,cap,cur,e,_,_,hnc,_⟩
 ·injection e with _ e1 e2;exact .inr ⟨h0,e1⟩
 injection e with _ e1 e2;subst e1 e2;exact .inl ⟨rfl,hnc⟩
theorem Qil(w:UInt8)(tx:List UInt8)(tg:Nat)(ps:List (List UInt8)):E8 w tx tg ps=if w=116 then 39::(tx++[39])
  else if w=91 then 91::(Ak 44 ps++[93])else if w=63 then(if ps.length=0 then[45]else 43::Ak 44 ps)else if w=61 then Aw tg++61::Ak 44 ps else if w=82 then 123::(Ak 44 ps++[125])
  else if w=85 then 60::(Aw tg++61::(Ak 44 ps++[62]))else if w=69 then 35::Aw tg else tx:=by
 unfold E8
 cases ps<;>rfl
theorem Zu(P:Nat->Prop)(v:Vl)(sl:Value)(w:World)(h:D8 P w sl v.kids)(hb:Bd v)
  (ih:∀x∈v.kids,∀s W,D8 P W s x.kids->Calls prog 26 #[G1 x s] W fun e w'=>e=.returned (.string ⟨(Az x).toArray⟩)/\Below W.heap.size W w'):
  Calls prog 26 #[G1 v sl] w fun e w'=>e=.returned (.string ⟨(Az v).toArray⟩)/\Below w.heap.size w w':=by
 have Ih:=Aa ih
 obtain⟨wh,tx,tg,ks⟩:=v
 obtain⟨h1,h2,h3,_⟩:=hb
 have HF:=Aa (D5 wh tx tg ks)
 simp only[Vl.kids]at h
 have Ih:=Aa (show ∀x∈ks,∀s W,D8 P W s x.kids->_ from ih)
 obtain⟨A,c,xs,rfl,rfl,hl,hr,hP,hk⟩:=h
 have Hr:=Aa hr
 have Hk:=Aa hk
 have hxl:(Av xs).length=xs.length:=by simp[Av]
 have Hd:=Aa (fun W=>Nd tg tg W (Ap _) h1)
 clear hr hk ih hP
 unfold G1
 simp only[Vl.what,Vl.text,Vl.tag]
 go_enter func26,ntmps26
 go_wp2_with fail
 obtain⟨w1,hw1⟩:∃w1,w1=w.alloc (.cells #[.int .u8 (wh.toNat:Int),.string ⟨tx.toArray⟩,.int .i64 (tg:Int),.slice A xs.length c] 42):=⟨_,rfl⟩
 rw[<-hw1]
 have c0:w1.cell? ⟨w.heap.size,0,none⟩=some (.int .u8 (wh.toNat:Int)):=by rw[hw1];simp
 have c1:w1.cell? ⟨w.heap.size,1,none⟩=some (.string ⟨tx.toArray⟩):=by rw[hw1];simp
 have c2:w1.cell? ⟨w.heap.size,2,none⟩=some (.int .i64 (tg:Int)):=by rw[hw1];simp
 have c3:w1.cell? ⟨w.heap.size,3,none⟩=some (.slice A xs.length c):=by rw[hw1];simp
 have hz1:w1.heap.size=w.heap.size+1:=by rw[hw1];simp
 have Hb1:=Aa (show Below w.heap.size w w1 by rw[hw1];exact(As _ _).alloc (Ap _) _)
 have Hr1:=Aa (Hr.o.below Hb1.o)
 have Hk1:=Aa (fun x hx=>(Hk.o x hx).after Hb1.o)
 have hB:w.heap.size<w1.heap.size:=by omega
 generalize hB0:w.heap.size=B at *
 have HB0:=Aa hB0
 clear hB0
 clear hw1 Hr Hk
 go_loopw [10,3] (fun i u wr=>∃(m:Nat) (A3:Option Addr) (n3 q3:Nat),i=.int .i64 m/\u=.slice A3 n3 q3/\m<=xs.length/\Hid (wr.ownsRow w1.heap.size 9 1 (.slice A3 n3 q3) m (Ae ((xs.take m).map fun x=>Az x.1)))/\Hid (Below w1.heap.size w1 wr)) (fun i _ _=>xs.length - (intOf i).toNat)
 case atStart=>exact⟨0,none,0,0,rfl,rfl,Nat.zero_le _,World.ownsRow_nil _ _ _ _,As _ _⟩
 case round=>
  obtain⟨m,A3,n3,q3,rfl,rfl,hm,Hown,Hbr⟩:=hrel
  have m1:(0:Int)<=(m:Int):=by omega
  by_cases hlt:m<xs.length
  ·have m2:(m:Int)<(xs.length:Int):=by omega
   obtain⟨b,off,rfl,hb,d0,d1,d2,d3⟩:=D8.at_ (Hr1.o.below Hbr.o) hlt
   have hkx:=(Hk1.o _ (List.getElem_mem hlt)).after Hbr.o
   have Hkx:=Aa hkx
   have Hmx:=Aa (show xs[m].1∈Av xs from List.mem_map_of_mem (List.getElem_mem hlt))
   have Hts:=Aa (Bn xs m hlt)
   have hsz:w1.heap.size<=wr.heap.size:=Hbr.o.size
   have hbn:¬(b=wr.heap.size):=by omega
   clear hkx
   generalize xs[m]=x at *
   obtain⟨y,ys⟩:=x
   obtain⟨A7,c7,e7⟩:=Hkx.o.form
   simp only at e7 d0 d1 d2 d3 Hkx Hmx
   subst e7
   have Hx:=Aa (fun W=>Ih.o y Hmx.o (.slice A7 y.kids.length c7) W)
   unfold G1 at Hx
   go_wp2_with fail
   refine(Hx.o _ (Hkx.o.after ((As _ _).alloc (Ap _) _))).mono ?_
   rintro e w3 ⟨rfl,hb3⟩
   have Hb3:=Aa (((As _ _).alloc (Ap _) _).trans (hb3.mono (by simp)))
   have Ho3:=Aa (Bf Hown.o Hb3.o)
   have hs3:w1.heap.size<=w3.heap.size:=Nat.le_trans hsz Hb3.o.size
   clear hb3
   go_wp2_with (at_builtin;refine Gt _ rfl _ _ 63 rfl w1.heap.size 9 (.string ⟨#[]⟩) 16 underlying63 Dl rfl w3 (.string ⟨(Az y).toArray⟩) rfl rfl (.slice A3 n3 q3) m (Ae ((xs.take m).map fun x=>Az x.1)) rfl rfl Ho3.o (by unfold maxLen;omega) (by omega) hs3 ?_;intro v' w5 hown5 hb5;obtain⟨A5,n5,c5,rfl⟩:=H8 hown5;have Ho:=Aa hown5;have Hb5:=Aa hb5;clear hown5 hb5)
   go_roundw
   case rel=>exact⟨m+1,A5,n5,c5,by go_num,rfl,by omega,(by rw[Hts.o,List.map_append,Fx];exact Ho.o),(Hbr.o.trans (Hb3.o.mono hsz)).trans Hb5.o⟩
   case measure=>simp[intOf];omega
  ·obtain rfl:m=xs.length:=by omega
   have hown6:=Hown.o
   rw[List.take_length]at hown6
   have hrow:=Bh.own hown6
   obtain⟨A6,c6,e6,hr6⟩:=hrow
   have hcap:=Sk hown6
   injection e6 with e7 e8 e9
   subst e7 e8 e9
   have Hps:=Aa (show (xs.map fun x=>Az x.1)=(Av xs).map Az by simp[Av])
   have hpl:(xs.map fun x=>Az x.1).length=xs.length:=by simp
   have Hj:=Aa (fun W (hW:Bh W A3 xs.length (Ae (xs.map fun x=>Az x.1)))=>(by
    have:=Qii A3 q3 (xs.map fun x=>Az x.1) W (by rw[hpl];exact hW) (by rw[hpl];omega) (by rw[Hps.o];omega)
    rw[hpl]at this
    exact this:Calls prog 37 #[.slice A3 xs.length q3,.string ⟨#[44]⟩] W fun e w'=>e=.returned (.string ⟨(Ak 44 (xs.map fun x=>Az x.1)).toArray⟩)/\Below W.heap.size W w'))
   have HF:=Aa (show Az (.mk wh tx tg (Av xs))=_ by rw[HF.o,<-Hps.o,Qil,hpl])
   have hjl:(Ak 44 (xs.map fun x=>Az x.1)).length<=1000000:=by rw[Bb,Hps.o];omega
   have hdl:(Aw tg).length<=11:=Ds 10 tg (by have e:10 ^ (10+1)=100000000000:=rfl;omega)
   generalize (xs.map fun x=>Az x.1)=ps at *
   generalize Ak 44 ps=jt at *
   have Hr6:=Aa hr6
   have Hb6:=Aa (Hb1.o.trans (Hbr.o.mono (by omega)))
   clear hown6 hr6 hcap Hps hpl Hown Ih Hk1 Hr1
   go_wp2_with fail
   refine(Hj.o _ Hr6.o).mono ?_
   rintro e w4 ⟨rfl,hb4⟩
   have Hb4:=Aa (Hb6.o.trans (hb4.mono (by have:=Hbr.o.size;omega)))
   have hc4:=fun j=>(hb4.cell (p:=⟨B,j,none⟩) (show B<wr.heap.size by have:=Hbr.o.size;omega)).trans (Hbr.o.cell (p:=⟨B,j,none⟩) hB)
   have g0:=(hc4 0).trans c0
   have g1:=(hc4 1).trans c1
   have g2:=(hc4 2).trans c2
   have g3:=(hc4 3).trans c3
   clear hc4 hb4 Hj Hr6 Hb6 Hbr Hb1
   by_cases a116:wh=116
   ·have HF:=Aa (HF.o.trans (if_pos a116))
    have t116:((wh.toNat:Int) == 116)=true:=Bl (d:=116) a116
    clear a116
    go_wp2_with fail
    go_ret
    exact⟨by rw[HF.o];simp,by rw[HB0.o];exact Hb4.o⟩
   have HF:=Aa (HF.o.trans (if_neg a116))
   have t116:((wh.toNat:Int) == 116)=false:=An (d:=116) a116
   clear a116
   by_cases a91:wh=91
   ·have HF:=Aa (HF.o.trans (if_pos a91))
    have t91:((wh.toNat:Int) == 91)=true:=Bl (d:=91) a91
    clear a91
    go_wp2_with fail
    go_ret
    exact⟨by rw[HF.o];simp,by rw[HB0.o];exact Hb4.o⟩
   have HF:=Aa (HF.o.trans (if_neg a91))
   have t91:((wh.toNat:Int) == 91)=false:=An (d:=91) a91
   clear a91
   by_cases a63:wh=63
   ·have HF:=Aa (HF.o.trans (if_pos a63))
    have t63:((wh.toNat:Int) == 63)=true:=Bl (d:=63) a63
    clear a63
    by_cases h0:xs.length=0
    ·have e0:((xs.length:Int) == 0)=true:=by simp[h0]
     have HF:=Aa (HF.o.trans (if_pos h0))
     clear h0
     go_wp2_with fail
     go_ret
     exact⟨by rw[HF.o];rfl,by rw[HB0.o];exact Hb4.o⟩
    have e0:((xs.length:Int) == 0)=false:=by rw[beq_eq_false_iff_ne];omega
    have HF:=Aa (HF.o.trans (if_neg h0))
    clear h0
    go_wp2_with fail
    go_ret
    exact⟨by rw[HF.o];rfl,by rw[HB0.o];exact Hb4.o⟩
   have HF:=Aa (HF.o.trans (if_neg a63))
   have t63:((wh.toNat:Int) == 63)=false:=An (d:=63) a63
   clear a63
   by_cases a61:wh=61
   ·have HF:=Aa (HF.o.trans (if_pos a61))
    have t61:((wh.toNat:Int) == 61)=true:=Bl (d:=61) a61
    clear a61
    go_wp2_with fail
    refine(Hd.o _).mono ?_
    rintro e w5 ⟨rfl,hb5⟩
    have Hb4:=Aa (Hb4.o.trans (hb5.mono (by have:=Hb4.o.size;have:=HB0.o;omega)))
    clear hb5
    go_wp2_with fail
    go_ret
    exact⟨by rw[HF.o];simp,by rw[HB0.o];exact Hb4.o⟩
   have HF:=Aa (HF.o.trans (if_neg a61))
   have t61:((wh.toNat:Int) == 61)=false:=An (d:=61) a61
   clear a61
   by_cases a82:wh=82
   ·have HF:=Aa (HF.o.trans (if_pos a82))
    have t82:((wh.toNat:Int) == 82)=true:=Bl (d:=82) a82
    clear a82
    go_wp2_with fail
    go_ret
    exact⟨by rw[HF.o];simp,by rw[HB0.o];exact Hb4.o⟩
   have HF:=Aa (HF.o.trans (if_neg a82))
   have t82:((wh.toNat:Int) == 82)=false:=An (d:=82) a82
   clear a82
   by_cases a85:wh=85
   ·have HF:=Aa (HF.o.trans (if_pos a85))
    have t85:((wh.toNat:Int) == 85)=true:=Bl (d:=85) a85
    clear a85
    go_wp2_with fail
    refine(Hd.o _).mono ?_
    rintro e w5 ⟨rfl,hb5⟩
    have Hb4:=Aa (Hb4.o.trans (hb5.mono (by have:=Hb4.o.size;have:=HB0.o;omega)))
    clear hb5
    go_wp2_with fail
    go_ret
    exact⟨by rw[HF.o];simp,by rw[HB0.o];exact Hb4.o⟩
   have HF:=Aa (HF.o.trans (if_neg a85))
   have t85:((wh.toNat:Int) == 85)=false:=An (d:=85) a85
   clear a85
   by_cases a69:wh=69
   ·have HF:=Aa (HF.o.trans (if_pos a69))
    have t69:((wh.toNat:Int) == 69)=true:=Bl (d:=69) a69
    clear a69
    go_wp2_with fail
    refine(Hd.o _).mono ?_
    rintro e w5 ⟨rfl,hb5⟩
    have Hb4:=Aa (Hb4.o.trans (hb5.mono (by have:=Hb4.o.size;have:=HB0.o;omega)))
    clear hb5
    go_wp2_with fail
    go_ret
    exact⟨by rw[HF.o];simp,by rw[HB0.o];exact Hb4.o⟩
   have HF:=Aa (HF.o.trans (if_neg a69))
   have t69:((wh.toNat:Int) == 69)=false:=An (d:=69) a69
   clear a69
   go_wp2_with fail
   go_ret
   exact⟨by rw[HF.o];rfl,by rw[HB0.o];exact Hb4.o⟩
theorem Ts(P:Nat->Prop){v:Vl}(hb:Bd v):∀(sl:Value) (w:World),D8 P w sl v.kids ->
  Calls prog 26 #[G1 v sl] w fun e w'=>e=.returned (.string ⟨(Az v).toArray⟩)/\Below w.heap.size w w':=by
 induction hb with
 |mk h1 h2 h3 h ih=>exact fun sl w hk=>Zu P _ sl w hk (.mk h1 h2 h3 h) fun x hx s W hs=>ih x hx s W hs
section
variable {P:Program}
theorem Ay{fn:Func}{p:Tmp}{ty:TypeId}(h:fn.results=#[.cell p ty])(tmps:Array Value)(w:World)(b:Nat)(cs:List Value)(d:TypeDesc)
  (hp:tmps.getD p undef=.pointer (some ⟨b,0,none⟩)) (hc:w.rangeAt b 0 cs) (hu:P.underlying ty=some d) (hd:d.isRow=true) (hi:(P.info? ty).map (·.size)=some cs.length):
  (results fn tmps).run P w=.ok (.agg cs.toArray) w:=by
 have hp':tmps[p]?.getD undef=.pointer (some ⟨b,0,none⟩):=by simpa using hp
 simp[results,h,hp',asAddr,run_loadVar_mid w b 0 ty cs d hc hu hd hi]
end
theorem D9(b nm:ByteArray)(w:World):Calls prog 35 #[.agg #[.string ⟨#[]⟩,.string b,.string nm]] w fun e w'=>e=.returned (.int .u8 0)/\Below w.heap.size w w':=by
 go_enter func35,ntmps35
 go_wp2_with fail
 go_ret
 exact⟨rfl,(As _ _).alloc (Ap _) _⟩
theorem Fm(c:UInt8)(t:List UInt8)(hl:t.length<=1000)(b nm:ByteArray)(w:World):Calls prog 35 #[.agg #[.string ⟨(c::t).toArray⟩,.string b,.string nm]] w fun e w'=>e=.returned (.int .u8 (c.toNat:Int))/\Below w.heap.size w w':=by
 go_enter func35,ntmps35
 go_wp2_with fail
 go_ret
 exact⟨rfl,(As _ _).alloc (Ap _) _⟩
theorem N4(k:Kd)(w:World)(c:UInt8)(t:List UInt8)(hs:k.signs=c::t)(hl:t.length<=1000):
  Calls prog 36 #[Fv k] w fun e w'=>e=.returned (Fv k.part)/\Below w.heap.size w w':=by
 have hp:k.part=⟨t,k.base,k.name⟩:=by unfold Kd.part;rw[hs];rfl
 rw[hp]
 unfold Fv
 rw[hs]
 clear hp hs
 go_enter func36,ntmps36
 go_wp2_with fail
 refine bodyPost_ret (v:=.agg ([.string ⟨t.toArray⟩,.string ⟨k.base.toArray⟩,.string ⟨k.name.toArray⟩]:List Value).toArray) ?_ rfl ?_
 ·refine Ay results36 _ _ (w.heap.size+1) _ _ rfl ?_ underlying39 rfl (by kernel_rfl)
  intro j v hv
  match j,hv with
  |0,hv=>simp at hv;subst hv;simp[go_sem]
  |1,hv=>simp at hv;subst hv;simp[go_sem]
  |2,hv=>simp at hv;subst hv;simp[go_sem]
  |n+3,hv=>simp at hv
 exact⟨rfl,((As _ _).alloc (Ap _) _).alloc (by simp) _⟩
end
end Go.Proofs.YtkigmebejmmikaaGreatDoor
