/- Texts joined. Conditions: as each theorem names them. -/
import Derived.Deep.RegionWith
import Derived.Laws.Rows
import Derived.Test.YtkgkoicedddkmaaGreatDoorC01
import Derived.Test.YtkgkoicedddkmaaGreatDoorC02
import Derived.Test.YtkgkoicedddkmaaGreatDoorC03
set_option maxRecDepth 100000
set_option maxHeartbeats 32000000
set_option linter.unusedVariables false
set_option linter.unusedSimpArgs false
namespace Go.Proofs.YtkgkoicedddkmaaGreatDoor
open Go.RowKit Go.Proofs.Tryz
section
attribute [local go_sem] Qiz Qii Qib Qgw ByteArray.mk_append_mk
def D2(k:Kd):Value:=.agg #[.string ⟨k.signs.toArray⟩,.string ⟨k.base.toArray⟩,.string ⟨k.name.toArray⟩]
def H9(o:Option Kd)(w:World)(e:Ending)(w':World):Prop:=
 (match o with
  |some k=>e=.returned (.tuple #[D2 k,.bool true])
  |none=>∃(a b c:ByteArray),e=.returned (.tuple #[.agg #[.string a,.string b,.string c],.bool false]))/\Below w.heap.size w w'
theorem H9.no{w w':World}{e:Ending}{o:Option Kd}(ho:o=none){a b c:ByteArray}(he:e=.returned (.tuple #[.agg #[.string a,.string b,.string c],.bool false]))(hb:Below w.heap.size w w'):H9 o w e w':=by
 rw[ho];exact⟨⟨a,b,c,he⟩,hb⟩
theorem H9.yes{w w':World}{e:Ending}{o:Option Kd}{k:Kd}(ho:o=some k)(he:e=.returned (.tuple #[D2 k,.bool true]))(hb:Below w.heap.size w w'):H9 o w e w':=by
 rw[ho];exact⟨he,hb⟩
theorem Qfv(c:UInt8):([91,63]:List UInt8).contains c=Bo c:=by
 have:=Pn (p:=fun c=>([91,63]:List UInt8).contains c == Bo c) (by decide +kernel) c
 simpa using this
theorem Qer(s:List UInt8):s.dropWhile (([91,63]:List UInt8).contains ·)=s.dropWhile Bo:=by
 congr 1;funext c;exact Qfv c
theorem P9(r:List UInt8)(c:UInt8):Lib.hasSuffix r [c]=decide (r.getLast?=some c):=by
 rcases Ej r with rfl|⟨t,d,rfl⟩
 ·rfl
 unfold Lib.hasSuffix List.isSuffixOf
 rw[List.reverse_append,List.getLast?_append]
 by_cases h:c=d
 ·subst h;simp[List.isPrefixOf]
 have h':d≠c:=fun e=>h e.symm
 simp[List.isPrefixOf,h,h']
theorem Qbe(s:List UInt8)(h:s.length<=12):∃g r,s=g++r/\s.dropWhile Bo=r /\
  ((∃b,(b=110\/b=116\/b=102)/\r=[b]/\Co s=some ⟨g,r,[]⟩) \/
   (∃nm,r=64::(nm++[59])/\Co s=if Aw nm=true then some ⟨g,[64],nm⟩else none) \/
   ((r == [110])=false/\(r == [116])=false/\(r == [102])=false/\(r.head?≠some 64\/(r.head?=some 64/\r.getLast?≠some 59))/\Co s=none)):=by
 refine⟨s.takeWhile Bo,s.dropWhile Bo,List.takeWhile_append_dropWhile.symm,rfl,?_⟩
 unfold Co
 rw[if_neg (by omega)]
 by_cases h1:s.dropWhile Bo=[110]\/s.dropWhile Bo=[116]\/s.dropWhile Bo=[102]
 ·left
  rw[if_pos h1]
  rcases h1 with h|h|h
  ·exact⟨110,by simp,h,rfl⟩
  ·exact⟨116,by simp,h,rfl⟩
  exact⟨102,by simp,h,rfl⟩
 right
 rw[if_neg h1]
 simp only[not_or]at h1
 by_cases h2:(s.dropWhile Bo).head?=some 64
 ·by_cases h3:(s.dropWhile Bo).getLast?=some 59
  ·left
   have e:=Qc5 h2 h3
   refine⟨((s.dropWhile Bo).drop 1).dropLast,e,?_⟩
   by_cases h4:Aw ((s.dropWhile Bo).drop 1).dropLast=true
   ·rw[if_pos ⟨h2,h3,h4⟩,if_pos h4]
   rw[if_neg (fun h=>h4 h.2.2),if_neg h4]
  right
  refine⟨by simpa using h1.1,by simpa using h1.2.1,by simpa using h1.2.2,.inr ⟨h2,h3⟩,?_⟩
  rw[if_neg (fun h=>h3 h.2.1)]
 right
 refine⟨by simpa using h1.1,by simpa using h1.2.1,by simpa using h1.2.2,.inl h2,?_⟩
 rw[if_neg (fun h=>h2 h.1)]
theorem Q7(s:List UInt8)(w:World)(hs:s.length<=4000000):
  Calls prog 73 #[.string ⟨s.toArray⟩] w (H9 (Co s) w):=by
 rcases Nat.lt_or_ge 12 s.length with h12|h12
 ·have Hn:=Aa (show Co s=none by unfold Co;rw[if_pos h12])
  go_enter func73,ntmps73
  go_wp2_with fail
  refine bodyPost_ret (v:=.tuple #[.agg #[.string ⟨#[]⟩,.string ⟨#[]⟩,.string ⟨#[]⟩],.bool false]) (by simp[results,results73,go_sem]) rfl ?_
  exact H9.no Hn.o rfl ((Aq _ _).alloc (Ap _) _)
 obtain⟨g,r,hsr,hr,hcase⟩:=Qbe s h12
 have hT:=fun W=>Nj s [91,63] W (by decide) (by decide)
 simp only[Qer,hr]at hT
 have HT:=Aa hT
 have hl:s.length=g.length+r.length:=by rw[hsr];simp
 have Htk:=Aa (show s.take (s.length - r.length)=g by rw[hl,hsr];simp)
 have k1:(0:Int)<=(s.length:Int) - (r.length:Int):=by omega
 have k2:(s.length:Int) - (r.length:Int)<=(s.length:Int):=by omega
 have k3:((s.length:Int) - (r.length:Int)).toNat=s.length - r.length:=by omega
 have hr12:r.length<=12:=by omega
 have hl1:r.length<=s.length:=by omega
 clear hT hr hl hsr
 rcases hcase with⟨b,hb,rfl,hk⟩|⟨nm,rfl,hk⟩|⟨q1,q2,q3,hh,hk⟩
 ·have h1:1<=s.length:=by simp at hl1;omega
  have Hg:=Aa (show s.take (s.length - 1)=g by simpa using Htk.o)
  have Hk:=Aa hk
  clear hk k1 k2 k3
  rcases hb with rfl|rfl|rfl
  ·go_enter func73,ntmps73
   go_wp2_with fail
   refine(HT.o _).mono ?_
   rintro e w1 ⟨rfl,hb⟩
   obtain⟨hc,hfz,hz⟩:=By hb
   have hzz:=hz w.heap.size (by simp)
   have hn1:¬(w1.heap.size=w.heap.size):=by omega
   have hn2:¬(w.heap.size=w1.heap.size):=by omega
   have Hb:=Aa (((Aq w.heap.size w).alloc (Ap _) _).trans (hb.mono (by simp)))
   have u0:w1.cell? ⟨w.heap.size,0,none⟩=some (.string ⟨#[]⟩):=by rw[hc w.heap.size 0 (by simp)];simp
   have u1:w1.cell? ⟨w.heap.size,1,none⟩=some (.string ⟨#[]⟩):=by rw[hc w.heap.size 1 (by simp)];simp
   have u2:w1.cell? ⟨w.heap.size,2,none⟩=some (.string ⟨#[]⟩):=by rw[hc w.heap.size 2 (by simp)];simp
   have fu:∀j,w1.frozen? ⟨w.heap.size,j,none⟩=false:=fun j=>by rw[hfz w.heap.size j (by simp)];simp
   clear hb hc hfz hz
   go_wp2_with fail
   refine bodyPost_ret (v:=.tuple #[.agg #[.string ⟨(s.take (s.length - 1)).toArray⟩,.string ⟨#[110]⟩,.string ⟨#[]⟩],.bool true]) (by simp[results,results73,go_sem,u0,u1,u2,fu,hn1,hn2,hzz]) rfl ?_
   exact H9.yes Hk.o (by rw[Hg.o];rfl) (by(repeat (first|exact Hb.o|refine Below.setCell ?_ (by first|exact Ap _|(simp;omega)|omega) _|refine Below.alloc ?_ (by first|exact Ap _|(simp;omega)|omega) _|refine Below.drew ?_)))
  ·go_enter func73,ntmps73
   go_wp2_with fail
   refine(HT.o _).mono ?_
   rintro e w1 ⟨rfl,hb⟩
   obtain⟨hc,hfz,hz⟩:=By hb
   have hzz:=hz w.heap.size (by simp)
   have hn1:¬(w1.heap.size=w.heap.size):=by omega
   have hn2:¬(w.heap.size=w1.heap.size):=by omega
   have Hb:=Aa (((Aq w.heap.size w).alloc (Ap _) _).trans (hb.mono (by simp)))
   have u0:w1.cell? ⟨w.heap.size,0,none⟩=some (.string ⟨#[]⟩):=by rw[hc w.heap.size 0 (by simp)];simp
   have u1:w1.cell? ⟨w.heap.size,1,none⟩=some (.string ⟨#[]⟩):=by rw[hc w.heap.size 1 (by simp)];simp
   have u2:w1.cell? ⟨w.heap.size,2,none⟩=some (.string ⟨#[]⟩):=by rw[hc w.heap.size 2 (by simp)];simp
   have fu:∀j,w1.frozen? ⟨w.heap.size,j,none⟩=false:=fun j=>by rw[hfz w.heap.size j (by simp)];simp
   clear hb hc hfz hz
   go_wp2_with fail
   refine bodyPost_ret (v:=.tuple #[.agg #[.string ⟨(s.take (s.length - 1)).toArray⟩,.string ⟨#[116]⟩,.string ⟨#[]⟩],.bool true]) (by simp[results,results73,go_sem,u0,u1,u2,fu,hn1,hn2,hzz]) rfl ?_
   exact H9.yes Hk.o (by rw[Hg.o];rfl) (by(repeat (first|exact Hb.o|refine Below.setCell ?_ (by first|exact Ap _|(simp;omega)|omega) _|refine Below.alloc ?_ (by first|exact Ap _|(simp;omega)|omega) _|refine Below.drew ?_)))
  go_enter func73,ntmps73
  go_wp2_with fail
  refine(HT.o _).mono ?_
  rintro e w1 ⟨rfl,hb⟩
  obtain⟨hc,hfz,hz⟩:=By hb
  have hzz:=hz w.heap.size (by simp)
  have hn1:¬(w1.heap.size=w.heap.size):=by omega
  have hn2:¬(w.heap.size=w1.heap.size):=by omega
  have Hb:=Aa (((Aq w.heap.size w).alloc (Ap _) _).trans (hb.mono (by simp)))
  have u0:w1.cell? ⟨w.heap.size,0,none⟩=some (.string ⟨#[]⟩):=by rw[hc w.heap.size 0 (by simp)];simp
  have u1:w1.cell? ⟨w.heap.size,1,none⟩=some (.string ⟨#[]⟩):=by rw[hc w.heap.size 1 (by simp)];simp
  have u2:w1.cell? ⟨w.heap.size,2,none⟩=some (.string ⟨#[]⟩):=by rw[hc w.heap.size 2 (by simp)];simp
  have fu:∀j,w1.frozen? ⟨w.heap.size,j,none⟩=false:=fun j=>by rw[hfz w.heap.size j (by simp)];simp
  clear hb hc hfz hz
  go_wp2_with fail
  refine bodyPost_ret (v:=.tuple #[.agg #[.string ⟨(s.take (s.length - 1)).toArray⟩,.string ⟨#[102]⟩,.string ⟨#[]⟩],.bool true]) (by simp[results,results73,go_sem,u0,u1,u2,fu,hn1,hn2,hzz]) rfl ?_
  exact H9.yes Hk.o (by rw[Hg.o];rfl) (by(repeat (first|exact Hb.o|refine Below.setCell ?_ (by first|exact Ap _|(simp;omega)|omega) _|refine Below.alloc ?_ (by first|exact Ap _|(simp;omega)|omega) _|refine Below.drew ?_)))
 ·have h1:nm.length+2<=s.length:=by simp at hl1;omega
  have Hg:=Aa (show s.take (s.length - (nm.length+1+1))=g by simpa using Htk.o)
  have hnl:nm.length<=12:=by omega
  have hmid:(nm++[59]).take nm.length=nm:=by simp
  have Hn:=Aa (fun W=>Ke nm W (by omega))
  have hp:([64]:List UInt8).isPrefixOf (64::(nm++[59]))=true:=rfl
  have hs:Lib.hasSuffix (64::(nm++[59])) [59]=true:=by
   rw[P9,show (64:UInt8)::(nm++[59])=(64::nm)++[59]from rfl,List.getLast?_append];rfl
  have Hp:=Aa (fun W=>P8 (64::(nm++[59])) [64] W)
  have Hs:=Aa (fun W=>P4 (64::(nm++[59])) [59] W (by simp;omega))
  rw[hp]at Hp
  rw[hs]at Hs
  clear hp hs k1 k2 k3
  rcases Bool.eq_false_or_eq_true (Aw nm)with hnm|hnm
  ·rw[if_pos hnm]at hk
   rw[hnm]at Hn
   have Hk:=Aa hk
   clear hk hnm
   go_enter func73,ntmps73
   go_wp2_with fail
   refine(HT.o _).mono ?_
   rintro e w1 ⟨rfl,hb⟩
   obtain⟨hc,hfz,hz⟩:=By hb
   have hzz:=hz w.heap.size (by simp)
   have hn1:¬(w1.heap.size=w.heap.size):=by omega
   have hn2:¬(w.heap.size=w1.heap.size):=by omega
   have Hb:=Aa (((Aq w.heap.size w).alloc (Ap _) _).trans (hb.mono (by simp)))
   have u0:w1.cell? ⟨w.heap.size,0,none⟩=some (.string ⟨#[]⟩):=by rw[hc w.heap.size 0 (by simp)];simp
   have u1:w1.cell? ⟨w.heap.size,1,none⟩=some (.string ⟨#[]⟩):=by rw[hc w.heap.size 1 (by simp)];simp
   have u2:w1.cell? ⟨w.heap.size,2,none⟩=some (.string ⟨#[]⟩):=by rw[hc w.heap.size 2 (by simp)];simp
   have fu:∀j,w1.frozen? ⟨w.heap.size,j,none⟩=false:=fun j=>by rw[hfz w.heap.size j (by simp)];simp
   clear hb hc hfz hz
   go_wp2_with fail
   refine(Hp.o _).mono ?_
   rintro e w2 ⟨rfl,rfl⟩
   go_wp2_with fail
   refine(Hs.o _).mono ?_
   rintro e w2 ⟨rfl,rfl⟩
   go_wp2_with fail
   go_region_with (go_at_call 103;refine(Hn.o _).mono ?_;rintro e w' ⟨rfl,hb6⟩;obtain⟨hc6,hfz6,hz6⟩:=By hb6;have y0:w'.cell? ⟨w.heap.size,0,none⟩=some (.string ⟨#[]⟩):=(by rw[hc6 w.heap.size 0 (by simp;omega)];simp[go_sem,u0,hn1,hn2,hzz]);have y1:w'.cell? ⟨w.heap.size,1,none⟩=some (.string ⟨#[]⟩):=(by rw[hc6 w.heap.size 1 (by simp;omega)];simp[go_sem,u1,hn1,hn2,hzz]);have y2:w'.cell? ⟨w.heap.size,2,none⟩=some (.string ⟨#[]⟩):=(by rw[hc6 w.heap.size 2 (by simp;omega)];simp[go_sem,u2,hn1,hn2,hzz]);have y6:=hz6 w.heap.size (by simp;omega))
   all_goals
    go_wp2
    refine bodyPost_ret (v:=.tuple #[.agg #[.string ⟨(s.take (s.length - (nm.length+1+1))).toArray⟩,.string ⟨#[64]⟩,.string ⟨nm.toArray⟩],.bool true]) (by simp[results,results73,go_sem,u0,u1,u2,fu,hn1,hn2,hzz,y0,y1,y2]) rfl ?_
    exact H9.yes Hk.o (by rw[Hg.o];rfl) (by(repeat (first|exact Hb.o|refine Below.setCell ?_ (by first|exact Ap _|(simp;omega)|omega) _|refine Below.alloc ?_ (by first|exact Ap _|(simp;omega)|omega) _|refine Below.drew ?_|refine Below.trans ?_ (hb6.mono (by first|exact Ap _|(simp;omega)|omega)))))
  rw[if_neg (by rw[hnm];decide)]at hk
  rw[hnm]at Hn
  have Hk:=Aa hk
  clear hk hnm
  go_enter func73,ntmps73
  go_wp2_with fail
  refine(HT.o _).mono ?_
  rintro e w1 ⟨rfl,hb⟩
  obtain⟨hc,hfz,hz⟩:=By hb
  have hzz:=hz w.heap.size (by simp)
  have hn1:¬(w1.heap.size=w.heap.size):=by omega
  have hn2:¬(w.heap.size=w1.heap.size):=by omega
  have Hb:=Aa (((Aq w.heap.size w).alloc (Ap _) _).trans (hb.mono (by simp)))
  have u0:w1.cell? ⟨w.heap.size,0,none⟩=some (.string ⟨#[]⟩):=by rw[hc w.heap.size 0 (by simp)];simp
  have u1:w1.cell? ⟨w.heap.size,1,none⟩=some (.string ⟨#[]⟩):=by rw[hc w.heap.size 1 (by simp)];simp
  have u2:w1.cell? ⟨w.heap.size,2,none⟩=some (.string ⟨#[]⟩):=by rw[hc w.heap.size 2 (by simp)];simp
  have fu:∀j,w1.frozen? ⟨w.heap.size,j,none⟩=false:=fun j=>by rw[hfz w.heap.size j (by simp)];simp
  clear hb hc hfz hz
  go_wp2_with fail
  refine(Hp.o _).mono ?_
  rintro e w2 ⟨rfl,rfl⟩
  go_wp2_with fail
  refine(Hs.o _).mono ?_
  rintro e w2 ⟨rfl,rfl⟩
  go_wp2_with fail
  go_region_with (go_at_call 103;refine(Hn.o _).mono ?_;rintro e w' ⟨rfl,hb6⟩;obtain⟨hc6,hfz6,hz6⟩:=By hb6;have y0:w'.cell? ⟨w.heap.size,0,none⟩=some (.string ⟨#[]⟩):=(by rw[hc6 w.heap.size 0 (by simp;omega)];simp[go_sem,u0,hn1,hn2,hzz]);have y1:w'.cell? ⟨w.heap.size,1,none⟩=some (.string ⟨#[]⟩):=(by rw[hc6 w.heap.size 1 (by simp;omega)];simp[go_sem,u1,hn1,hn2,hzz]);have y2:w'.cell? ⟨w.heap.size,2,none⟩=some (.string ⟨#[]⟩):=(by rw[hc6 w.heap.size 2 (by simp;omega)];simp[go_sem,u2,hn1,hn2,hzz]);have y6:=hz6 w.heap.size (by simp;omega))
  all_goals
   go_wp2
   refine bodyPost_ret (v:=.tuple #[.agg #[.string ⟨(s.take (s.length - (nm.length+1+1))).toArray⟩,.string ⟨#[64]⟩,.string ⟨nm.toArray⟩],.bool false]) (by simp[results,results73,go_sem,u0,u1,u2,fu,hn1,hn2,hzz,y0,y1,y2]) rfl ?_
   exact H9.no Hk.o rfl (by(repeat (first|exact Hb.o|refine Below.setCell ?_ (by first|exact Ap _|(simp;omega)|omega) _|refine Below.alloc ?_ (by first|exact Ap _|(simp;omega)|omega) _|refine Below.drew ?_|refine Below.trans ?_ (hb6.mono (by first|exact Ap _|(simp;omega)|omega)))))
 have Hp:=Aa (fun W=>P8 r [64] W)
 have Hs:=Aa (fun W=>P4 r [59] W (by omega))
 have Hk:=Aa hk
 have q1':¬(r=[110]):=by simpa using q1
 have q2':¬(r=[116]):=by simpa using q2
 have q3':¬(r=[102]):=by simpa using q3
 clear hk k1 k2 k3
 rcases hh with hh|⟨hh,hl2⟩
 ·have hp:([64]:List UInt8).isPrefixOf r=false:=by
   cases r with
   |nil=>rfl
   |cons c r=>simp at hh;simp[List.isPrefixOf];exact fun e=>hh e.symm
  rw[hp]at Hp
  clear hp hh
  go_enter func73,ntmps73
  go_wp2_with fail
  refine(HT.o _).mono ?_
  rintro e w1 ⟨rfl,hb⟩
  obtain⟨hc,hfz,hz⟩:=By hb
  have hzz:=hz w.heap.size (by simp)
  have hn1:¬(w1.heap.size=w.heap.size):=by omega
  have hn2:¬(w.heap.size=w1.heap.size):=by omega
  have Hb:=Aa (((Aq w.heap.size w).alloc (Ap _) _).trans (hb.mono (by simp)))
  have u0:w1.cell? ⟨w.heap.size,0,none⟩=some (.string ⟨#[]⟩):=by rw[hc w.heap.size 0 (by simp)];simp
  have u1:w1.cell? ⟨w.heap.size,1,none⟩=some (.string ⟨#[]⟩):=by rw[hc w.heap.size 1 (by simp)];simp
  have u2:w1.cell? ⟨w.heap.size,2,none⟩=some (.string ⟨#[]⟩):=by rw[hc w.heap.size 2 (by simp)];simp
  have fu:∀j,w1.frozen? ⟨w.heap.size,j,none⟩=false:=fun j=>by rw[hfz w.heap.size j (by simp)];simp
  clear hb hc hfz hz
  go_wp2_with fail
  refine(Hp.o _).mono ?_
  rintro e w2 ⟨rfl,rfl⟩
  go_wp2_with fail
  refine bodyPost_ret (v:=.tuple #[.agg #[.string ⟨#[]⟩,.string ⟨#[]⟩,.string ⟨#[]⟩],.bool false]) (by simp[results,results73,go_sem,u0,u1,u2,fu,hn1,hn2,hzz]) rfl ?_
  exact H9.no Hk.o rfl (by(repeat (first|exact Hb.o|refine Below.setCell ?_ (by first|exact Ap _|(simp;omega)|omega) _|refine Below.alloc ?_ (by first|exact Ap _|(simp;omega)|omega) _|refine Below.drew ?_)))
 have hp:([64]:List UInt8).isPrefixOf r=true:=by
  cases r with
  |nil=>simp at hh
  |cons c r=>simp at hh;subst hh;rfl
 have hs:Lib.hasSuffix r [59]=false:=by rw[P9];simpa using hl2
 rw[hp]at Hp
 rw[hs]at Hs
 clear hp hs hh hl2
 go_enter func73,ntmps73
 go_wp2_with fail
 refine(HT.o _).mono ?_
 rintro e w1 ⟨rfl,hb⟩
 obtain⟨hc,hfz,hz⟩:=By hb
 have hzz:=hz w.heap.size (by simp)
 have hn1:¬(w1.heap.size=w.heap.size):=by omega
 have hn2:¬(w.heap.size=w1.heap.size):=by omega
 have Hb:=Aa (((Aq w.heap.size w).alloc (Ap _) _).trans (hb.mono (by simp)))
 have u0:w1.cell? ⟨w.heap.size,0,none⟩=some (.string ⟨#[]⟩):=by rw[hc w.heap.size 0 (by simp)];simp
 have u1:w1.cell? ⟨w.heap.size,1,none⟩=some (.string ⟨#[]⟩):=by rw[hc w.heap.size 1 (by simp)];simp
 have u2:w1.cell? ⟨w.heap.size,2,none⟩=some (.string ⟨#[]⟩):=by rw[hc w.heap.size 2 (by simp)];simp
 have fu:∀j,w1.frozen? ⟨w.heap.size,j,none⟩=false:=fun j=>by rw[hfz w.heap.size j (by simp)];simp
 clear hb hc hfz hz
 go_wp2_with fail
 refine(Hp.o _).mono ?_
 rintro e w2 ⟨rfl,rfl⟩
 go_wp2_with fail
 refine(Hs.o _).mono ?_
 rintro e w2 ⟨rfl,rfl⟩
 go_wp2_with fail
 refine bodyPost_ret (v:=.tuple #[.agg #[.string ⟨#[]⟩,.string ⟨#[]⟩,.string ⟨#[]⟩],.bool false]) (by simp[results,results73,go_sem,u0,u1,u2,fu,hn1,hn2,hzz]) rfl ?_
 exact H9.no Hk.o rfl (by(repeat (first|exact Hb.o|refine Below.setCell ?_ (by first|exact Ap _|(simp;omega)|omega) _|refine Below.alloc ?_ (by first|exact Ap _|(simp;omega)|omega) _|refine Below.drew ?_)))
end
def Qz(f:Fd):List Value:=[.int .i64 (f.tag:Int),.string ⟨f.name.toArray⟩,.string ⟨f.kind.signs.toArray⟩,.string ⟨f.kind.base.toArray⟩,.string ⟨f.kind.name.toArray⟩,.string ⟨f.given.toArray⟩]
def ifV(f:Fd):Value:=.agg #[.int .i64 (f.tag:Int),.string ⟨f.name.toArray⟩,.string ⟨f.kind.signs.toArray⟩,.string ⟨f.kind.base.toArray⟩,.string ⟨f.kind.name.toArray⟩,.string ⟨f.given.toArray⟩]
theorem Qc9(f:Fd):(Qz f).length=6:=rfl
def Pv(w:World)(v:Value)(fs:List Fd):Prop:=∃A c,v=.slice A fs.length c/\fs.length<=8/\B9 w A (fs.length*6) (fs.flatMap Qz)
theorem Pv.below{w w':World}{v:Value}{fs:List Fd}(h:Pv w v fs)(hb:Below w.heap.size w w'):Pv w' v fs:=by
 obtain⟨A,c,e,hl,hr⟩:=h
 exact⟨A,c,e,hl,hr.below hb⟩
theorem Pv.at_{w:World}{A:Option Addr}{fs:List Fd}(hr:B9 w A (fs.length*6) (fs.flatMap Qz)){i:Nat}(hi:i<fs.length):
  ∃b off,A=some ⟨b,off,none⟩/\b<w.heap.size/\w.cell? ⟨b,off+i*6,none⟩=some (.int .i64 (fs[i].tag:Int))/\w.cell? ⟨b,off+i*6+1,none⟩=some (.string ⟨fs[i].name.toArray⟩) /\
   w.cell? ⟨b,off+i*6+2,none⟩=some (.string ⟨fs[i].kind.signs.toArray⟩)/\w.cell? ⟨b,off+i*6+3,none⟩=some (.string ⟨fs[i].kind.base.toArray⟩) /\
   w.cell? ⟨b,off+i*6+4,none⟩=some (.string ⟨fs[i].kind.name.toArray⟩)/\w.cell? ⟨b,off+i*6+5,none⟩=some (.string ⟨fs[i].given.toArray⟩):=by
 obtain⟨b,off,e,hlt,hc⟩:=hr.elem Qc9 (by decide) hi
 refine⟨b,off,e,hlt,?_,?_,?_,?_,?_,?_⟩
 ·have:=hc 0 _ rfl;simpa using this
 ·have:=hc 1 _ rfl;simpa [Nat.add_assoc]using this
 ·have:=hc 2 _ rfl;simpa [Nat.add_assoc]using this
 ·have:=hc 3 _ rfl;simpa [Nat.add_assoc]using this
 ·have:=hc 4 _ rfl;simpa [Nat.add_assoc]using this
 have:=hc 5 _ rfl;simpa [Nat.add_assoc]using this
structure PT where
 ty:Ty
 blk:Nat
 fv:Value
def Pf(w:World)(b:Nat):Prop:=∃cs t,w.heap[b]?=some (.cells cs t (0,0))
theorem Pf.belowAt{B:Nat}{w w':World}{b:Nat}(h:Pf w b)(hb:b<B)(hw:Below B w w'):Pf w' b:=by
 obtain⟨cs,t,h⟩:=h
 exact⟨cs,t,(hw.block b hb).trans h⟩
theorem Pf.grown{w w':World}{b:Nat}{row:Option Nat}(h:Pf w b)(hb:b<w.heap.size)(hg:w.grownBy w' row)(hne:some b≠row):Pf w' b:=by
 obtain⟨cs,t,h⟩:=h
 exact⟨cs,t,(hg.block b hb hne).trans h⟩
theorem Pf.set{w:World}{b o:Nat}(h:Pf w b)(v:Value):Pf (w.setCell ⟨b,o,none⟩ v) b:=by
 obtain⟨cs,t,h⟩:=h
 exact⟨_,t,heap_setCell_same w b o cs t v h⟩
theorem Pf.new(w:World)(cs:Array Value)(t:TypeId):Pf (w.alloc (.cells cs t)) w.heap.size:=⟨cs,t,heap_alloc_new w _⟩
def PT.ptr(x:PT):Value:=.pointer (some ⟨x.blk,0,none⟩)
def Px(w:World)(x:PT):Prop:=
 x.blk<w.heap.size/\Pf w x.blk/\w.cell? ⟨x.blk,0,none⟩=some (.int .u8 (x.ty.sort.toNat:Int))/\w.cell? ⟨x.blk,1,none⟩=some (.string ⟨x.ty.name.toArray⟩)/\w.cell? ⟨x.blk,2,none⟩=some x.fv/\w.cell? ⟨x.blk,3,none⟩=some (.string ⟨(Yc x.ty).toArray⟩)/\Pv w x.fv x.ty.fields
theorem Px.below{w w':World}{x:PT}(h:Px w x)(hb:Below w.heap.size w w'):Px w' x:=by
 obtain⟨h0,hk,h1,h2,h3,h4,h5⟩:=h
 obtain⟨hc,_,hz⟩:=By hb
 exact⟨hz _ h0,hk.belowAt h0 hb,(hc _ _ h0).trans h1,(hc _ _ h0).trans h2,(hc _ _ h0).trans h3,(hc _ _ h0).trans h4,h5.below hb⟩
def Ae(xs:List PT):List Ty:=xs.map (·.ty)
def Ef(xs:List PT)(n:Cf):Option PT:=xs.find? fun x=>decide (x.ty.name=n)
theorem Gf(xs:List PT)(n:Cf):Bp (Ae xs) n=(Ef xs n).map (·.ty):=by
 unfold Bp Ae Ef;rw[List.find?_map];rfl
theorem Fc{xs:List PT}{n:Cf}{x:PT}(h:Ef xs n=some x):x∈xs/\x.ty.name=n/\Bp (Ae xs) n=some x.ty:=by
 refine⟨List.mem_of_find?_eq_some h,?_,by rw[Gf,h];rfl⟩
 have:=List.find?_some h
 simpa using this
def Xh:Option PT->Value
 |some x=>x.ptr
 |none=>.pointer none
def V0(xs:List PT)(l:Lit):Value:=match l with|.string s=>Xh (Ef xs s)|_=>.pointer none
theorem Tryz.keyStr:Go.Maps.Keyed prog 9:=Go.Maps.string_keyed underlying9
theorem Tryz.zeroPtr(w:World):(zeroValue 118).run prog w=.ok (.pointer none) w:=by kernel_rfl
def Pd(w:World)(mb:Nat)(xs:List PT):Prop:=Dd prog 9 (.pointer none) w mb xs.length (V0 xs)
def Q9(w:World)(p:Value)(xs:List PT):Prop:=
 ∃b A c mb,p=.pointer (some ⟨b,0,none⟩)/\b<w.heap.size/\w.cell? ⟨b,0,none⟩=some (.slice A xs.length c)/\w.cell? ⟨b,1,none⟩=some (.map (some mb))/\B9 w A xs.length (xs.map (·.ptr))/\Pd w mb xs/\(∀x∈xs,Px w x)/\xs.Pairwise fun x y=>x.blk≠y.blk
theorem Q9.below{w w':World}{p:Value}{xs:List PT}(h:Q9 w p xs)(hb:Below w.heap.size w w'):Q9 w' p xs:=by
 obtain⟨b,A,c,mb,e,h0,h1,h2,h3,h4,h5,h6⟩:=h
 obtain⟨hc,_,hz⟩:=By hb
 exact⟨b,A,c,mb,e,hz _ h0,(hc _ _ h0).trans h1,(hc _ _ h0).trans h2,h3.below hb,Dd.below h4 hb,fun x hx=>(h5 x hx).below hb,h6⟩
theorem Qc6{n:Cf}(h:n.length<=9223372036854775807):keyOf prog 9 (.string ⟨n.toArray⟩)=some (.string n):=by
 have:=Go.WideMaps.keyOf_string_mk (P:=prog) (k:=9) underlying9 (s:=⟨n.toArray⟩) (by unfold maxLen;exact h)
 simpa using this
def Dv(o:Option Fd)(w:World)(e:Ending)(w':World):Prop:=
 (match o with
  |some f=>e=.returned (.tuple #[ifV f,.bool true])
  |none=>∃(n:Int) (a b c d g:ByteArray),e=.returned (.tuple #[.agg #[.int .i64 n,.string a,.string b,.string c,.string d,.string g],.bool false]))/\Below w.heap.size w w'
theorem Dv.no{w w':World}{e:Ending}{o:Option Fd}(ho:o=none){n:Int}{a b c d g:ByteArray}(he:e=.returned (.tuple #[.agg #[.int .i64 n,.string a,.string b,.string c,.string d,.string g],.bool false]))(hb:Below w.heap.size w w'):Dv o w e w':=by
 rw[ho];exact⟨⟨n,a,b,c,d,g,he⟩,hb⟩
theorem Dv.yes{w w':World}{e:Ending}{o:Option Fd}{f:Fd}(ho:o=some f)(he:e=.returned (.tuple #[ifV f,.bool true]))(hb:Below w.heap.size w w'):Dv o w e w':=by
 rw[ho];exact⟨he,hb⟩
def J5(x:Vl × Value):List Value:=[.int .u8 (x.1.what.toNat:Int),.string ⟨x.1.text.toArray⟩,.int .i64 (x.1.tag:Int),x.2]
def D9(v:Vl)(sl:Value):Value:=.agg #[.int .u8 (v.what.toNat:Int),.string ⟨v.text.toArray⟩,.int .i64 (v.tag:Int),sl]
theorem Qdb(x:Vl × Value):(J5 x).length=4:=rfl
def A0(xs:List (Vl × Value)):List Vl:=xs.map (·.1)
inductive Dx(P:Nat->Prop)(w:World):Value->List Vl->Prop
 |mk {v:Value} {ks:List Vl} (A:Option Addr) (c:Nat) (xs:List (Vl × Value)) (hv:v=.slice A xs.length c) (hk:ks=A0 xs) (hl:xs.length<=1000) (hr:B9 w A (xs.length*4) (xs.flatMap J5))
   (hP:∀g o,0<xs.length->A=some ⟨g,o,none⟩->P g) (h:∀x∈xs,Dx P w x.2 x.1.kids):Dx P w v ks
theorem Dx.kept{P Q:Nat->Prop}{w w':World}{v:Value}{ks:List Vl}(h:Dx P w v ks)(hc:∀b o u,P b->b<w.heap.size->w.cell? ⟨b,o,none⟩=some u->w'.cell? ⟨b,o,none⟩=some u)
  (hz:w.heap.size<=w'.heap.size) (hQ:∀b,P b->b<w.heap.size->Q b):Dx Q w' v ks:=by
 induction h with
 |mk A c xs hv hk hl hr hP h ih=>
  refine .mk A c xs hv hk hl ⟨hr.1,hr.2.1,fun hn=>?_⟩ (fun g o hn e=>?_) ih
  ·obtain⟨b,off,e,hlt,hcs⟩:=hr.2.2 hn
   exact⟨b,off,e,by omega,fun j u hu=>hc b _ u (hP b off (by omega) e) hlt (hcs j u hu)⟩
  obtain⟨b,off,e2,hlt,_⟩:=hr.2.2 (by omega)
  rw[e]at e2
  injection e2 with e2
  injection e2 with e2 _ _
  subst e2
  exact hQ g (hP g o hn e) hlt
theorem Dx.after{P:Nat->Prop}{w w':World}{v:Value}{ks:List Vl}(h:Dx P w v ks)(hb:Below w.heap.size w w'):Dx P w' v ks:=
 h.kept (fun b o u _ hl hu=>(hb.cell (p:=⟨b,o,none⟩) hl).trans hu) hb.size fun _ h _=>h
theorem Dx.mono{P Q:Nat->Prop}{w:World}{v:Value}{ks:List Vl}(h:Dx P w v ks)(hQ:∀b,P b->b<w.heap.size->Q b):Dx Q w v ks:=h.kept (fun _ _ _ _ _ hu=>hu) (Ap _) hQ
theorem Dx.grown{P:Nat->Prop}{w w':World}{v:Value}{ks:List Vl}{row:Option Nat}(h:Dx P w v ks)(hg:w.grownBy w' row)(hne:∀b,P b->some b≠row):Dx P w' v ks:=
 h.kept (fun b o u hp _ hu=>hg.cell hu (hne b hp)) hg.size fun _ h _=>h
theorem Dx.nil(P:Nat->Prop)(w:World):Dx P w (.slice none 0 0) []:=.mk none 0 [] rfl rfl (by simp) ⟨rfl,Nat.zero_le _,fun h=>absurd h (by simp)⟩ (fun _ _ h=>absurd h (by simp)) (by simp)
theorem Dx.form{P:Nat->Prop}{w:World}{v:Value}{ks:List Vl}(h:Dx P w v ks):∃A c,v=.slice A ks.length c:=by
 obtain⟨A,c,xs,rfl,rfl,_,_,_,_⟩:=h
 exact⟨A,c,by simp[A0]⟩
theorem Dx.at_{w:World}{A:Option Addr}{xs:List (Vl × Value)}(hr:B9 w A (xs.length*4) (xs.flatMap J5)){i:Nat}(hi:i<xs.length):
  ∃b off,A=some ⟨b,off,none⟩/\b<w.heap.size/\w.cell? ⟨b,off+i*4,none⟩=some (.int .u8 (xs[i].1.what.toNat:Int))/\w.cell? ⟨b,off+i*4+1,none⟩=some (.string ⟨xs[i].1.text.toArray⟩) /\
   w.cell? ⟨b,off+i*4+2,none⟩=some (.int .i64 (xs[i].1.tag:Int))/\w.cell? ⟨b,off+i*4+3,none⟩=some xs[i].2:=by
 obtain⟨b,off,e,hlt,hc⟩:=hr.elem Qdb (by decide) hi
 refine⟨b,off,e,hlt,?_,?_,?_,?_⟩
 ·have:=hc 0 _ rfl;simpa using this
 ·have:=hc 1 _ rfl;simpa [Nat.add_assoc]using this
 ·have:=hc 2 _ rfl;simpa [Nat.add_assoc]using this
 have:=hc 3 _ rfl;simpa [Nat.add_assoc]using this
end Go.Proofs.YtkgkoicedddkmaaGreatDoor
