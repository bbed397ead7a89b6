/- Texts joined. Conditions: as each theorem names them. -/
import Derived.Deep.RegionWith
import Derived.Laws.Rows
import Derived.Test.YtmmhmlmfhpfgbaaGreatDoorF15
set_option maxRecDepth 100000
set_option maxHeartbeats 32000000
set_option linter.unusedVariables false
set_option linter.unusedSimpArgs false
namespace Go.Proofs.YtmmhmlmfhpfgbaaGreatDoor
open Go.RowKit Go.Proofs.Tryz
section
attribute [local go_sem] Qoe Qnf Qmu Qk2 ByteArray.mk_append_mk
def D9(k:Kd):Value:=.agg #[k.signs,k.base,k.name]
def J4(o:Option Kd)(w:World)(e:Ending)(w':World):Prop:=
 (match o with
  |some k=>e=.returned (.tuple #[D9 k,.bool true])
  |none=>∃(a b c:ByteArray),e=.returned (.tuple #[.agg #[.string a,.string b,.string c],.bool false]))/\Below w w w'
theorem J4.no{w w':World}{e:Ending}{o:Option Kd}(ho:o=none){a b c:ByteArray}(he:e=.returned (.tuple #[.agg #[.string a,.string b,.string c],.bool false]))(hb:Below w w w'):J4 o w e w':=by
 rw[ho];exact⟨⟨a,b,c,he⟩,hb⟩
theorem J4.yes{w w':World}{e:Ending}{o:Option Kd}{k:Kd}(ho:o=some k)(he:e=.returned (.tuple #[D9 k,.bool true]))(hb:Below w w w'):J4 o w e w':=by
 rw[ho];exact⟨he,hb⟩
theorem Qki(c:UInt8):([91,63]:List UInt8).contains c=Bn c:=by
 have:=Q9 (p:=fun c=>([91,63]:List UInt8).contains c == Bn c) fJ c;simpa using this
theorem Qia(s:List UInt8):s.dropWhile (([91,63]:List UInt8).contains ·)=s.dropWhile Bn:=by
 congr 1;funext c;exact Qki c
theorem Ry(r:List UInt8)(c:UInt8):Lib.hasSuffix r [c]=decide (r.getLast?=some c):=by
 rcases Fk r with rfl|⟨t,d,rfl⟩
 ·rfl
 unfold Lib.hasSuffix List.isSuffixOf;rw[List.reverse_append,List.getLast?_append];by_cases h:c=d
 ·subst h;simp[List.isPrefixOf]
 have h':d≠c:=fun e=>h e.symm;simp[List.isPrefixOf,h,h']
theorem Qen(s:List UInt8)(h:s.length<=12):∃g r,s=g++r/\s.dropWhile Bn=r /\
  ((∃b,(b=110\/b=116\/b=102)/\r=[b]/\Cs s=some ⟨g,r,[]⟩) \/
   (∃nm,r=64::(nm++[59])/\Cs s=if Be nm=true then some ⟨g,[64],nm⟩else none) \/
   ((r == [110])=false/\(r == [116])=false/\(r == [102])=false/\(r.head?≠some 64\/(r.head?=some 64/\r.getLast?≠some 59))/\Cs s=none)):=by
 refine⟨s.takeWhile Bn,s.dropWhile Bn,List.takeWhile_append_dropWhile.symm,rfl,?_⟩;unfold Cs;rw[if_neg aH];by_cases h1:s.dropWhile Bn=[110]\/s.dropWhile Bn=[116]\/s.dropWhile Bn=[102]
 ·left;rw[if_pos h1];rcases h1 with h|h|h
  ·exact⟨110,by simp,h,rfl⟩
  ·exact⟨116,by simp,h,rfl⟩
  exact⟨102,by simp,h,rfl⟩
 right;rw[if_neg h1];simp only[not_or]at h1;by_cases h2:(s.dropWhile Bn).head?=some 64
 ·by_cases h3:(s.dropWhile Bn).getLast?=some 59
  ·left;have e:=Qgv h2 h3;refine⟨((s.dropWhile Bn).drop 1).dropLast,e,?_⟩;by_cases h4:Be ((s.dropWhile Bn).drop 1).dropLast=true
   ·rw[if_pos ⟨h2,h3,h4⟩,if_pos h4]
   rw[if_neg (fun h=>h4 h.2.2),if_neg h4]
  right;refine⟨by simpa using h1.1,by simpa using h1.2.1,by simpa using h1.2.2,.inr ⟨h2,h3⟩,?_⟩;rw[if_neg (fun h=>h3 h.2.1)]
 right;refine⟨by simpa using h1.1,by simpa using h1.2.1,by simpa using h1.2.2,.inl h2,?_⟩;rw[if_neg (fun h=>h2 h.1)]
theorem Ps(s:List UInt8)(w:World)(hs:s.length<=4000000):
  Calls prog 81 #[s] w (J4 (Cs s) w):=by
 rcases aG 12 s.length with h12|h12
 ·have Hn:=Aa (show Cs s=none by unfold Cs;rw[if_pos h12]);go_enter func81,ntmps81;go_wp2_with fail;refine aF (v:=.tuple #[.agg #[a6,a6,a6],.bool false]) (by simp[results,results81,go_sem]) rfl ?_;exact J4.no Hn.o rfl ((Ao _ _).alloc (An _) _)
 obtain⟨g,r,hsr,hr,hcase⟩:=Qen s h12;have hT:=fun W=>Pi s [91,63] W aJ aJ;simp only[Qia,hr]at hT;have HT:=Aa hT;have hl:s.length=g.length+r.length:=by rw[hsr];simp
 have Htk:=Aa (show s.take (s.length - r.length)=g by rw[hl,hsr];simp);have k1:(0:Int)<=(s.length:Int) - (r.length:Int):=aH;have k2:(s.length:Int) - (r.length:Int)<=(s.length:Int):=aH;have k3:((s.length:Int) - (r.length:Int)).toNat=s.length - r.length:=aH;have hr12:r.length<=12:=aH;have hl1:r.length<=s.length:=aH;clear hT hr hl hsr;rcases hcase with⟨b,hb,rfl,hk⟩|⟨nm,rfl,hk⟩|⟨q1,q2,q3,hh,hk⟩
 ·have h1:1<=s.length:=by simp at hl1;omega
  have Hg:=Aa (show s.take (s.length - 1)=g by simpa using Htk.o);have Hk:=Aa hk;clear hk k1 k2 k3;rcases hb with rfl|rfl|rfl
  ·go_enter func81,ntmps81;go_wp2_with fail;refine(HT.o _).mono ?_;rintro e w1 ⟨rfl,hb⟩;obtain⟨hc,hfz,hz⟩:=Cj hb;have hzz:=hz w.heap.size aK;have hn1:¬(w1.heap.size=w.heap.size):=aH;have hn2:¬(w.heap.size=w1.heap.size):=aH;have Hb:=Aa (((Ao w.heap.size w).alloc (An _) _).trans (hb.mono aK));have u0:w1.cell? (w,0)=a6:=gO;have u1:w1.cell? (w,1)=a6:=gP;have u2:w1.cell? (w,2)=a6:=gQ;have fu:∀j,w1.frozen? ⟨w.heap.size,j,none⟩=false:=fun j=>gL;clear hb hc hfz hz;go_wp2_with fail;refine aF (v:=.tuple #[.agg #[.string ⟨(s.take (s.length - 1)).toArray⟩,.string ⟨#[110]⟩,a6],.bool true]) (by simp[results,results81,go_sem,u0,u1,u2,fu,hn1,hn2,hzz]) rfl ?_;exact J4.yes Hk.o g7 aV
  ·go_enter func81,ntmps81;go_wp2_with fail;refine(HT.o _).mono ?_;rintro e w1 ⟨rfl,hb⟩;obtain⟨hc,hfz,hz⟩:=Cj hb;have hzz:=hz w.heap.size aK;have hn1:¬(w1.heap.size=w.heap.size):=aH;have hn2:¬(w.heap.size=w1.heap.size):=aH;have Hb:=Aa (((Ao w.heap.size w).alloc (An _) _).trans (hb.mono aK));have u0:w1.cell? (w,0)=a6:=gO;have u1:w1.cell? (w,1)=a6:=gP;have u2:w1.cell? (w,2)=a6:=gQ;have fu:∀j,w1.frozen? ⟨w.heap.size,j,none⟩=false:=fun j=>gL;clear hb hc hfz hz;go_wp2_with fail;refine aF (v:=.tuple #[.agg #[.string ⟨(s.take (s.length - 1)).toArray⟩,.string ⟨#[116]⟩,a6],.bool true]) (by simp[results,results81,go_sem,u0,u1,u2,fu,hn1,hn2,hzz]) rfl ?_;exact J4.yes Hk.o g7 aV
  go_enter func81,ntmps81;go_wp2_with fail;refine(HT.o _).mono ?_;rintro e w1 ⟨rfl,hb⟩;obtain⟨hc,hfz,hz⟩:=Cj hb;have hzz:=hz w.heap.size aK;have hn1:¬(w1.heap.size=w.heap.size):=aH;have hn2:¬(w.heap.size=w1.heap.size):=aH;have Hb:=Aa (((Ao w.heap.size w).alloc (An _) _).trans (hb.mono aK));have u0:w1.cell? (w,0)=a6:=gO;have u1:w1.cell? (w,1)=a6:=gP;have u2:w1.cell? (w,2)=a6:=gQ;have fu:∀j,w1.frozen? ⟨w.heap.size,j,none⟩=false:=fun j=>gL;clear hb hc hfz hz;go_wp2_with fail;refine aF (v:=.tuple #[.agg #[.string ⟨(s.take (s.length - 1)).toArray⟩,.string ⟨#[102]⟩,a6],.bool true]) (by simp[results,results81,go_sem,u0,u1,u2,fu,hn1,hn2,hzz]) rfl ?_;exact J4.yes Hk.o g7 aV
 ·have h1:nm.length+2<=s.length:=by simp at hl1;omega
  have Hg:=Aa (show s.take (s.length - (nm.length+1+1))=g by simpa using Htk.o);have hnl:nm.length<=12:=aH;have hmid:(nm++[59]).take nm.length=nm:=aK;have Hn:=Aa (fun W=>Mn nm W aH);have hp:([64]:List UInt8).isPrefixOf (64::(nm++[59]))=true:=rfl;have hs:Lib.hasSuffix (64::(nm++[59])) [59]=true:=by
   rw[Ry,show (64:UInt8)::(nm++[59])=(64::nm)++[59]from rfl,List.getLast?_append];rfl
  have Hp:=Aa (fun W=>Rz (64::(nm++[59])) [64] W);have Hs:=Aa (fun W=>Sc (64::(nm++[59])) [59] W aM);rw[hp]at Hp;rw[hs]at Hs;clear hp hs k1 k2 k3;rcases Bool.eq_false_or_eq_true (Be nm)with hnm|hnm
  ·rw[if_pos hnm]at hk;rw[hnm]at Hn;have Hk:=Aa hk;clear hk hnm;go_enter func81,ntmps81;go_wp2_with fail;refine(HT.o _).mono ?_;rintro e w1 ⟨rfl,hb⟩;obtain⟨hc,hfz,hz⟩:=Cj hb;have hzz:=hz w.heap.size aK;have hn1:¬(w1.heap.size=w.heap.size):=aH;have hn2:¬(w.heap.size=w1.heap.size):=aH;have Hb:=Aa (((Ao w.heap.size w).alloc (An _) _).trans (hb.mono aK));have u0:w1.cell? (w,0)=a6:=gO;have u1:w1.cell? (w,1)=a6:=gP;have u2:w1.cell? (w,2)=a6:=gQ;have fu:∀j,w1.frozen? ⟨w.heap.size,j,none⟩=false:=fun j=>gL;clear hb hc hfz hz;go_wp2_with fail;refine(Hp.o _).mono ?_;rintro e w2 ⟨rfl,rfl⟩;go_wp2_with fail;refine(Hs.o _).mono ?_;rintro e w2 ⟨rfl,rfl⟩;go_wp2_with fail;go_region_with (go_at_call 138;refine(Hn.o _).mono ?_;rintro e w' ⟨rfl,hb6⟩;obtain⟨hc6,hfz6,hz6⟩:=Cj hb6;have y0:w'.cell? (w,0)=a6:=fl;have y1:w'.cell? (w,1)=a6:=fm;have y2:w'.cell? (w,2)=a6:=fq;have y6:=hz6 w.heap.size aM)
   all_goals
    go_wp2
    refine aF (v:=.tuple #[.agg #[.string ⟨(s.take (s.length - (nm.length+1+1))).toArray⟩,.string ⟨#[64]⟩,nm],.bool true]) (by simp[results,results81,go_sem,u0,u1,u2,fu,hn1,hn2,hzz,y0,y1,y2]) rfl ?_;exact J4.yes Hk.o g7 bQ
  rw[if_neg (by rw[hnm];decide)]at hk;rw[hnm]at Hn;have Hk:=Aa hk;clear hk hnm;go_enter func81,ntmps81;go_wp2_with fail;refine(HT.o _).mono ?_;rintro e w1 ⟨rfl,hb⟩;obtain⟨hc,hfz,hz⟩:=Cj hb;have hzz:=hz w.heap.size aK;have hn1:¬(w1.heap.size=w.heap.size):=aH;have hn2:¬(w.heap.size=w1.heap.size):=aH;have Hb:=Aa (((Ao w.heap.size w).alloc (An _) _).trans (hb.mono aK));have u0:w1.cell? (w,0)=a6:=gO;have u1:w1.cell? (w,1)=a6:=gP;have u2:w1.cell? (w,2)=a6:=gQ;have fu:∀j,w1.frozen? ⟨w.heap.size,j,none⟩=false:=fun j=>gL;clear hb hc hfz hz;go_wp2_with fail;refine(Hp.o _).mono ?_;rintro e w2 ⟨rfl,rfl⟩;go_wp2_with fail;refine(Hs.o _).mono ?_;rintro e w2 ⟨rfl,rfl⟩;go_wp2_with fail;go_region_with (go_at_call 138;refine(Hn.o _).mono ?_;rintro e w' ⟨rfl,hb6⟩;obtain⟨hc6,hfz6,hz6⟩:=Cj hb6;have y0:w'.cell? (w,0)=a6:=fl;have y1:w'.cell? (w,1)=a6:=fm;have y2:w'.cell? (w,2)=a6:=fq;have y6:=hz6 w.heap.size aM)
  all_goals
   go_wp2
   refine aF (v:=.tuple #[.agg #[.string ⟨(s.take (s.length - (nm.length+1+1))).toArray⟩,.string ⟨#[64]⟩,nm],.bool false]) (by simp[results,results81,go_sem,u0,u1,u2,fu,hn1,hn2,hzz,y0,y1,y2]) rfl ?_;exact J4.no Hk.o rfl bQ
 have Hp:=Aa (fun W=>Rz r [64] W);have Hs:=Aa (fun W=>Sc r [59] W aH);have Hk:=Aa hk;have q1':¬(r=[110]):=by simpa using q1
 have q2':¬(r=[116]):=by simpa using q2
 have q3':¬(r=[102]):=by simpa using q3
 clear hk k1 k2 k3;rcases hh with hh|⟨hh,hl2⟩
 ·have hp:([64]:List UInt8).isPrefixOf r=false:=by
   cases r with
   |nil=>rfl
   |cons c r=>simp at hh;simp[List.isPrefixOf];exact fun e=>hh e.symm
  rw[hp]at Hp;clear hp hh;go_enter func81,ntmps81;go_wp2_with fail;refine(HT.o _).mono ?_;rintro e w1 ⟨rfl,hb⟩;obtain⟨hc,hfz,hz⟩:=Cj hb;have hzz:=hz w.heap.size aK;have hn1:¬(w1.heap.size=w.heap.size):=aH;have hn2:¬(w.heap.size=w1.heap.size):=aH;have Hb:=Aa (((Ao w.heap.size w).alloc (An _) _).trans (hb.mono aK));have u0:w1.cell? (w,0)=a6:=gO;have u1:w1.cell? (w,1)=a6:=gP;have u2:w1.cell? (w,2)=a6:=gQ;have fu:∀j,w1.frozen? ⟨w.heap.size,j,none⟩=false:=fun j=>gL;clear hb hc hfz hz;go_wp2_with fail;refine(Hp.o _).mono ?_;rintro e w2 ⟨rfl,rfl⟩;go_wp2_with fail;refine aF (v:=.tuple #[.agg #[a6,a6,a6],.bool false]) (by simp[results,results81,go_sem,u0,u1,u2,fu,hn1,hn2,hzz]) rfl ?_;exact J4.no Hk.o rfl aV
 have hp:([64]:List UInt8).isPrefixOf r=true:=by
  cases r with
  |nil=>simp at hh
  |cons c r=>simp at hh;subst hh;rfl
 have hs:Lib.hasSuffix r [59]=false:=by rw[Ry];simpa using hl2
 rw[hp]at Hp;rw[hs]at Hs;clear hp hs hh hl2;go_enter func81,ntmps81;go_wp2_with fail;refine(HT.o _).mono ?_;rintro e w1 ⟨rfl,hb⟩;obtain⟨hc,hfz,hz⟩:=Cj hb;have hzz:=hz w.heap.size aK;have hn1:¬(w1.heap.size=w.heap.size):=aH;have hn2:¬(w.heap.size=w1.heap.size):=aH;have Hb:=Aa (((Ao w.heap.size w).alloc (An _) _).trans (hb.mono aK));have u0:w1.cell? (w,0)=a6:=gO;have u1:w1.cell? (w,1)=a6:=gP;have u2:w1.cell? (w,2)=a6:=gQ;have fu:∀j,w1.frozen? ⟨w.heap.size,j,none⟩=false:=fun j=>gL;clear hb hc hfz hz;go_wp2_with fail;refine(Hp.o _).mono ?_;rintro e w2 ⟨rfl,rfl⟩;go_wp2_with fail;refine(Hs.o _).mono ?_;rintro e w2 ⟨rfl,rfl⟩;go_wp2_with fail;refine aF (v:=.tuple #[.agg #[a6,a6,a6],.bool false]) (by simp[results,results81,go_sem,u0,u1,u2,fu,hn1,hn2,hzz]) rfl ?_;exact J4.no Hk.o rfl aV
end
def Rt(f:Fd):List Value:=[(f.tag:Int),f.name,f.kind.signs,f.kind.base,f.kind.name,f.given]
def ifV(f:Fd):Value:=.agg #[(f.tag:Int),f.name,f.kind.signs,f.kind.base,f.kind.name,f.given]
theorem Qg2(f:Fd):(Rt f).length=6:=rfl
def Q5(w:World)(v:Value)(fs:List Fd):Prop:=∃A c,v=.slice A fs.length c/\fs.length<=8/\B0 w A (fs.length*6) (fs.flatMap Rt)
theorem Q5.below{w w':World}{v:Value}{fs:List Fd}(h:Q5 w v fs)(hb:Below w w w'):Q5 w' v fs:=by
 exact jU
theorem Q5.at_{w:World}{A:Option Addr}{fs:List Fd}(hr:B0 w A (fs.length*6) (fs.flatMap Rt)){i:Nat}(hi:i<fs.length):
  ∃b off,A=some ⟨b,off,none⟩/\b<w.heap.size/\w.cell? ⟨b,off+i*6,none⟩=some (.int .i64 (fs[i].tag:Int))/\w.cell? ⟨b,off+i*6+1,none⟩=some (.string ⟨fs[i].name.toArray⟩) /\
   w.cell? ⟨b,off+i*6+2,none⟩=some (.string ⟨fs[i].kind.signs.toArray⟩)/\w.cell? ⟨b,off+i*6+3,none⟩=some (.string ⟨fs[i].kind.base.toArray⟩) /\
   w.cell? ⟨b,off+i*6+4,none⟩=some (.string ⟨fs[i].kind.name.toArray⟩)/\w.cell? ⟨b,off+i*6+5,none⟩=some (.string ⟨fs[i].given.toArray⟩):=by
 obtain⟨b,off,e,hlt,hc⟩:=hr.elem Qg2 aJ hi;refine⟨b,off,e,hlt,?_,?_,?_,?_,?_,?_⟩
 ·exact jx
 ·exact jf
 ·exact jq
 ·have:=hc 3 _ rfl;simpa [Nat.add_assoc]using this
 ·have:=hc 4 _ rfl;simpa [Nat.add_assoc]using this
 have:=hc 5 _ rfl;simpa [Nat.add_assoc]using this
structure PT where
 ty:Ty
 blk:Nat
 fv:Value
def Qe(w:World)(b:Nat):Prop:=∃cs t,w.heap[b]?=some (.cells cs t (0,0))
theorem Qe.belowAt{B:Nat}{w w':World}{b:Nat}(h:Qe w b)(hb:b<B)(hw:Below B w w'):Qe w' b:=by
 obtain⟨cs,t,h⟩:=h;exact⟨cs,t,(hw.block b hb).trans h⟩
theorem Qe.grown{w w':World}{b:Nat}{row:Option Nat}(h:Qe w b)(hb:b<w.heap.size)(hg:w.grownBy w' row)(hne:some b≠row):Qe w' b:=by
 obtain⟨cs,t,h⟩:=h;exact⟨cs,t,(hg.block b hb hne).trans h⟩
theorem Qe.set{w:World}{b o:Nat}(h:Qe w b)(v:Value):Qe (w.setCell ⟨b,o,none⟩ v) b:=by
 obtain⟨cs,t,h⟩:=h;exact⟨_,t,heap_setCell_same w b o cs t v h⟩
theorem Qe.new(w:World)(cs:Array Value)(t:TypeId):Qe (w.alloc (.cells cs t)) w.heap.size:=⟨cs,t,heap_alloc_new w _⟩
def PT.ptr(x:PT):Value:=x.blk
def P8(w:World)(x:PT):Prop:=
 x.blk<w.heap.size/\Qe w x.blk/\w.cell? (x.blk,0)=some (.int .u8 (x.ty.sort.toNat:Int))/\w.cell? (x.blk,1)=x.ty.name/\w.cell? (x.blk,2)=some x.fv/\w.cell? (x.blk,3)=some (.string ⟨(V8 x.ty).toArray⟩)/\Q5 w x.fv x.ty.fields
theorem P8.below{w w':World}{x:PT}(h:P8 w x)(hb:Below w w w'):P8 w' x:=by
 obtain⟨h0,hk,h1,h2,h3,h4,h5⟩:=h;obtain⟨hc,_,hz⟩:=Cj hb;exact⟨hz _ h0,hk.belowAt h0 hb,(hc _ _ h0).trans h1,(hc _ _ h0).trans h2,(hc _ _ h0).trans h3,(hc _ _ h0).trans h4,h5.below hb⟩
def Ag(xs:List PT):List Ty:=xs.map (·.ty)
def D8(xs:List PT)(n:Cn):Option PT:=xs.find? fun x=>decide (x.ty.name=n)
theorem Gg(xs:List PT)(n:Cn):Bk (Ag xs) n=(D8 xs n).map (·.ty):=by
 unfold Bk Ag D8;rw[List.find?_map];rfl
theorem D5{xs:List PT}{n:Cn}{x:PT}(h:D8 xs n=some x):x∈xs/\x.ty.name=n/\Bk (Ag xs) n=some x.ty:=by
 refine⟨List.mem_of_find?_eq_some h,?_,by rw[Gg,h];rfl⟩;have:=List.find?_some h;simpa using this
def Pq:Option PT->Value
 |some x=>x.ptr
 |none=>.pointer none
def Yp(xs:List PT)(l:Lit):Value:=match l with|.string s=>Pq (D8 xs s)|_=>.pointer none
theorem Tryz.keyStr:Go.Maps.Keyed prog 9:=Go.Maps.string_keyed underlying9
theorem Tryz.zeroPtr(w:World):(zeroValue 90).run prog w=.ok (.pointer none) w:=aN
def Qo(w:World)(mb:Nat)(xs:List PT):Prop:=Dp prog 9 (.pointer none) w mb xs.length (Yp xs)
def Sd(w:World)(p:Value)(xs:List PT):Prop:=
 ∃b A c mb,p=.pointer (some ⟨b,0,none⟩)/\b<w.heap.size/\w.cell? ⟨b,0,none⟩=some (.slice A xs.length c)/\w.cell? ⟨b,1,none⟩=some (.map (some mb))/\B0 w A xs.length (xs.map (·.ptr))/\Qo w mb xs/\(∀x∈xs,P8 w x)/\xs.Pairwise fun x y=>x.blk≠y.blk
theorem Sd.below{w w':World}{p:Value}{xs:List PT}(h:Sd w p xs)(hb:Below w w w'):Sd w' p xs:=by
 obtain⟨b,A,c,mb,e,h0,h1,h2,h3,h4,h5,h6⟩:=h;obtain⟨hc,_,hz⟩:=Cj hb;exact⟨b,A,c,mb,e,hz _ h0,(hc _ _ h0).trans h1,(hc _ _ h0).trans h2,h3.below hb,Dp.below h4 hb,fun x hx=>(h5 x hx).below hb,h6⟩
theorem Qgm{n:Cn}(h:n.length<=9223372036854775807):keyOf prog 9 n=some (.string n):=by
 have:=Go.WideMaps.keyOf_string_mk (P:=prog) (k:=9) underlying9 (s:=⟨n.toArray⟩) (by unfold maxLen;exact h);simpa using this
def Ei(o:Option Fd)(w:World)(e:Ending)(w':World):Prop:=
 (match o with
  |some f=>e=.returned (.tuple #[ifV f,.bool true])
  |none=>∃(n:Int) (a b c d g:ByteArray),e=.returned (.tuple #[.agg #[.int .i64 n,.string a,.string b,.string c,.string d,.string g],.bool false]))/\Below w w w'
theorem Ei.no{w w':World}{e:Ending}{o:Option Fd}(ho:o=none){n:Int}{a b c d g:ByteArray}(he:e=.returned (.tuple #[.agg #[.int .i64 n,.string a,.string b,.string c,.string d,.string g],.bool false]))(hb:Below w w w'):Ei o w e w':=by
 rw[ho];exact⟨⟨n,a,b,c,d,g,he⟩,hb⟩
theorem Ei.yes{w w':World}{e:Ending}{o:Option Fd}{f:Fd}(ho:o=some f)(he:e=.returned (.tuple #[ifV f,.bool true]))(hb:Below w w w'):Ei o w e w':=by
 rw[ho];exact⟨he,hb⟩
section
attribute [local go_sem] Qoe Qnf Qmu Qk2 ByteArray.mk_append_mk
theorem Q5.range{w:World}{A:Option Addr}{fs:List Fd}(hr:B0 w A (fs.length*6) (fs.flatMap Rt)){i:Nat}(hi:i<fs.length):∃b off,A=some ⟨b,off,none⟩/\b<w.heap.size/\w.rangeAt b (off+i*6) (Rt fs[i]):=by
 obtain⟨b,off,e,hlt,hc⟩:=hr.elem Qg2 (by decide) hi
 exact⟨b,off,e,hlt,fun j v hv=>by rw[Nat.add_assoc];exact hc j v hv⟩
end
end Go.Proofs.YtmmhmlmfhpfgbaaGreatDoor
