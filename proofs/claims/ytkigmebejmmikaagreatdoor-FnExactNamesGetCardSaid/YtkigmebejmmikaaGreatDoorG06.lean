/- Texts joined. Conditions: as each theorem names them. -/
import Derived.Deep.RegionWith
import Derived.Laws.Rows
import Derived.BigRegion
import Derived.BigQuiet
import Derived.Deep.QuietTactic
import Derived.Deep.MidRow
import Derived.Test.YtkigmebejmmikaaGreatDoorG05
import Derived.Test.YtkigmebejmmikaaGreatDoorG12
set_option maxRecDepth 100000
set_option maxHeartbeats 32000000
set_option linter.unusedVariables false
set_option linter.unusedSimpArgs false
namespace Go.Proofs.YtkigmebejmmikaaGreatDoor
open Go.RowKit Go.Proofs.Tryz
section
attribute [local go_sem] Qjy Qiu Qil Qgp ByteArray.mk_append_mk
def Gb(k:Kd):Value:=.agg #[k.signs,k.base,k.name]
def Jg(o:Option Kd)(w:World)(e:Ending)(w':World):Prop:=
 (match o with
  |some k=>e=.returned (.tuple #[Gb k,.bool true])
  |none=>∃(a b c:ByteArray),e=.returned (.tuple #[.agg #[.string a,.string b,.string c],.bool false]))/\Below w w w'
theorem Jg.no{w w':World}{e:Ending}{o:Option Kd}(ho:o=none){a b c:ByteArray}(he:e=.returned (.tuple #[.agg #[.string a,.string b,.string c],.bool false]))(hb:Below w w w'):Jg o w e w':=by
 rw[ho];exact⟨⟨a,b,c,he⟩,hb⟩
theorem Jg.yes{w w':World}{e:Ending}{o:Option Kd}{k:Kd}(ho:o=some k)(he:e=.returned (.tuple #[Gb k,.bool true]))(hb:Below w w w'):Jg o w e w':=by
 rw[ho];exact⟨he,hb⟩
theorem Qfe(c:UInt8):([91,63]:List UInt8).contains c=Bo c:=by
 have:=Po (p:=fun c=>([91,63]:List UInt8).contains c == Bo c) eD c;simpa using this
theorem Qd8(s:List UInt8):s.dropWhile (([91,63]:List UInt8).contains ·)=s.dropWhile Bo:=by
 congr 1;funext c;exact Qfe c
theorem Pv(r:List UInt8)(c:UInt8):Lib.hasSuffix r [c]=decide (r.getLast?=some c):=by
 rcases Eu r with rfl|⟨t,d,rfl⟩
 ·rfl
 unfold Lib.hasSuffix List.isSuffixOf;rw[List.reverse_append,List.getLast?_append];by_cases h:c=d
 ·subst h;simp[List.isPrefixOf]
 have h':d≠c:=fun e=>h e.symm;simp[List.isPrefixOf,h,h']
theorem Zx(s:List UInt8)(h:s.length<=12):∃g r,s=g++r/\s.dropWhile Bo=r /\
  ((∃b,(b=110\/b=116\/b=102)/\r=[b]/\Co s=some ⟨g,r,[]⟩) \/
   (∃nm,r=64::(nm++[59])/\Co s=if Bb nm=true then some ⟨g,[64],nm⟩else none) \/
   ((r == [110])=false/\(r == [116])=false/\(r == [102])=false/\(r.head?≠some 64\/(r.head?=some 64/\r.getLast?≠some 59))/\Co s=none)):=by
 refine⟨s.takeWhile Bo,s.dropWhile Bo,List.takeWhile_append_dropWhile.symm,rfl,?_⟩;unfold Co;rw[if_neg aE];by_cases h1:s.dropWhile Bo=[110]\/s.dropWhile Bo=[116]\/s.dropWhile Bo=[102]
 ·left;rw[if_pos h1];rcases h1 with h|h|h
  ·exact⟨110,by simp,h,rfl⟩
  ·exact⟨116,by simp,h,rfl⟩
  exact⟨102,by simp,h,rfl⟩
 right;rw[if_neg h1];simp only[not_or]at h1;by_cases h2:(s.dropWhile Bo).head?=some 64
 ·by_cases h3:(s.dropWhile Bo).getLast?=some 59
  ·left;have e:=Qcv h2 h3;refine⟨((s.dropWhile Bo).drop 1).dropLast,e,?_⟩;by_cases h4:Bb ((s.dropWhile Bo).drop 1).dropLast=true
   ·rw[if_pos ⟨h2,h3,h4⟩,if_pos h4]
   rw[if_neg (fun h=>h4 h.2.2),if_neg h4]
  right;refine⟨by simpa using h1.1,by simpa using h1.2.1,by simpa using h1.2.2,.inr ⟨h2,h3⟩,?_⟩;rw[if_neg (fun h=>h3 h.2.1)]
 right;refine⟨by simpa using h1.1,by simpa using h1.2.1,by simpa using h1.2.2,.inl h2,?_⟩;rw[if_neg (fun h=>h2 h.1)]
theorem Qp(s:List UInt8)(w:World)(hs:s.length<=4000000):
  Calls prog 53 #[s] w (Jg (Co s) w):=by
 rcases aD 12 s.length with h12|h12
 ·have Hn:=Aa (show Co s=none by unfold Co;rw[if_pos h12]);go_enter func53,ntmps53;go_wp2_with fail;refine aC (v:=.tuple #[.agg #[a8,a8,a8],.bool false]) (by simp[results,results53,go_sem]) rfl ?_;exact Jg.no Hn.o rfl ((Ay _ _).alloc (As _) _)
 obtain⟨g,r,hsr,hr,hcase⟩:=Zx s h12;have hT:=fun W=>Jw s [91,63] W aH aH;simp only[Qd8,hr]at hT;have HT:=Aa hT;have hl:s.length=g.length+r.length:=by rw[hsr];simp
 have Htk:=Aa (show s.take (s.length - r.length)=g by rw[hl,hsr];simp);have k1:(0:Int)<=(s.length:Int) - (r.length:Int):=aE;have k2:(s.length:Int) - (r.length:Int)<=(s.length:Int):=aE;have k3:((s.length:Int) - (r.length:Int)).toNat=s.length - r.length:=aE;have hr12:r.length<=12:=aE;have hl1:r.length<=s.length:=aE;clear hT hr hl hsr;rcases hcase with⟨b,hb,rfl,hk⟩|⟨nm,rfl,hk⟩|⟨q1,q2,q3,hh,hk⟩
 ·have h1:1<=s.length:=by simp at hl1;omega
  have Hg:=Aa (show s.take (s.length - 1)=g by simpa using Htk.o);have Hk:=Aa hk;clear hk k1 k2 k3;rcases hb with rfl|rfl|rfl
  ·go_enter func53,ntmps53;go_wp2_with fail;refine(HT.o _).mono ?_;rintro e w1 ⟨rfl,hb⟩;obtain⟨hc,hfz,hz⟩:=B4 hb;have hzz:=hz w.heap.size aI;have hn1:¬(w1.heap.size=w.heap.size):=aE;have hn2:¬(w.heap.size=w1.heap.size):=aE;have Hb:=Aa (((Ay w.heap.size w).alloc (As _) _).trans (hb.mono aI));have u0:w1.cell? (w,0)=a8:=fx;have u1:w1.cell? (w,1)=a8:=fy;have u2:w1.cell? (w,2)=a8:=fz;have fu:∀j,w1.frozen? ⟨w.heap.size,j,none⟩=false:=fun j=>ft;clear hb hc hfz hz;go_wp2_with fail;refine aC (v:=.tuple #[.agg #[.string ⟨(s.take (s.length - 1)).toArray⟩,.string ⟨#[110]⟩,a8],.bool true]) (by simp[results,results53,go_sem,u0,u1,u2,fu,hn1,hn2,hzz]) rfl ?_;exact Jg.yes Hk.o eR aQ
  ·go_enter func53,ntmps53;go_wp2_with fail;refine(HT.o _).mono ?_;rintro e w1 ⟨rfl,hb⟩;obtain⟨hc,hfz,hz⟩:=B4 hb;have hzz:=hz w.heap.size aI;have hn1:¬(w1.heap.size=w.heap.size):=aE;have hn2:¬(w.heap.size=w1.heap.size):=aE;have Hb:=Aa (((Ay w.heap.size w).alloc (As _) _).trans (hb.mono aI));have u0:w1.cell? (w,0)=a8:=fx;have u1:w1.cell? (w,1)=a8:=fy;have u2:w1.cell? (w,2)=a8:=fz;have fu:∀j,w1.frozen? ⟨w.heap.size,j,none⟩=false:=fun j=>ft;clear hb hc hfz hz;go_wp2_with fail;refine aC (v:=.tuple #[.agg #[.string ⟨(s.take (s.length - 1)).toArray⟩,.string ⟨#[116]⟩,a8],.bool true]) (by simp[results,results53,go_sem,u0,u1,u2,fu,hn1,hn2,hzz]) rfl ?_;exact Jg.yes Hk.o eR aQ
  go_enter func53,ntmps53;go_wp2_with fail;refine(HT.o _).mono ?_;rintro e w1 ⟨rfl,hb⟩;obtain⟨hc,hfz,hz⟩:=B4 hb;have hzz:=hz w.heap.size aI;have hn1:¬(w1.heap.size=w.heap.size):=aE;have hn2:¬(w.heap.size=w1.heap.size):=aE;have Hb:=Aa (((Ay w.heap.size w).alloc (As _) _).trans (hb.mono aI));have u0:w1.cell? (w,0)=a8:=fx;have u1:w1.cell? (w,1)=a8:=fy;have u2:w1.cell? (w,2)=a8:=fz;have fu:∀j,w1.frozen? ⟨w.heap.size,j,none⟩=false:=fun j=>ft;clear hb hc hfz hz;go_wp2_with fail;refine aC (v:=.tuple #[.agg #[.string ⟨(s.take (s.length - 1)).toArray⟩,.string ⟨#[102]⟩,a8],.bool true]) (by simp[results,results53,go_sem,u0,u1,u2,fu,hn1,hn2,hzz]) rfl ?_;exact Jg.yes Hk.o eR aQ
 ·have h1:nm.length+2<=s.length:=by simp at hl1;omega
  have Hg:=Aa (show s.take (s.length - (nm.length+1+1))=g by simpa using Htk.o);have hnl:nm.length<=12:=aE;have hmid:(nm++[59]).take nm.length=nm:=aI;have Hn:=Aa (fun W=>J8 nm W aE);have hp:([64]:List UInt8).isPrefixOf (64::(nm++[59]))=true:=rfl;have hs:Lib.hasSuffix (64::(nm++[59])) [59]=true:=by
   rw[Pv,show (64:UInt8)::(nm++[59])=(64::nm)++[59]from rfl,List.getLast?_append];rfl
  have Hp:=Aa (fun W=>Pu (64::(nm++[59])) [64] W);have Hs:=Aa (fun W=>Pw (64::(nm++[59])) [59] W aM);rw[hp]at Hp;rw[hs]at Hs;clear hp hs k1 k2 k3;rcases Bool.eq_false_or_eq_true (Bb nm)with hnm|hnm
  ·rw[if_pos hnm]at hk;rw[hnm]at Hn;have Hk:=Aa hk;clear hk hnm;go_enter func53,ntmps53;go_wp2_with fail;refine(HT.o _).mono ?_;rintro e w1 ⟨rfl,hb⟩;obtain⟨hc,hfz,hz⟩:=B4 hb;have hzz:=hz w.heap.size aI;have hn1:¬(w1.heap.size=w.heap.size):=aE;have hn2:¬(w.heap.size=w1.heap.size):=aE;have Hb:=Aa (((Ay w.heap.size w).alloc (As _) _).trans (hb.mono aI));have u0:w1.cell? (w,0)=a8:=fx;have u1:w1.cell? (w,1)=a8:=fy;have u2:w1.cell? (w,2)=a8:=fz;have fu:∀j,w1.frozen? ⟨w.heap.size,j,none⟩=false:=fun j=>ft;clear hb hc hfz hz;go_wp2_with fail;refine(Hp.o _).mono ?_;rintro e w2 ⟨rfl,rfl⟩;go_wp2_with fail;refine(Hs.o _).mono ?_;rintro e w2 ⟨rfl,rfl⟩;go_wp2_with fail;go_region_with (go_at_call 95;refine(Hn.o _).mono ?_;rintro e w' ⟨rfl,hb6⟩;obtain⟨hc6,hfz6,hz6⟩:=B4 hb6;have y0:w'.cell? (w,0)=a8:=eh;have y1:w'.cell? (w,1)=a8:=ei;have y2:w'.cell? (w,2)=a8:=ej;have y6:=hz6 w.heap.size aM)
   all_goals
    go_wp2
    refine aC (v:=.tuple #[.agg #[.string ⟨(s.take (s.length - (nm.length+1+1))).toArray⟩,.string ⟨#[64]⟩,nm],.bool true]) (by simp[results,results53,go_sem,u0,u1,u2,fu,hn1,hn2,hzz,y0,y1,y2]) rfl ?_;exact Jg.yes Hk.o eR bB
  rw[if_neg (by rw[hnm];decide)]at hk;rw[hnm]at Hn;have Hk:=Aa hk;clear hk hnm;go_enter func53,ntmps53;go_wp2_with fail;refine(HT.o _).mono ?_;rintro e w1 ⟨rfl,hb⟩;obtain⟨hc,hfz,hz⟩:=B4 hb;have hzz:=hz w.heap.size aI;have hn1:¬(w1.heap.size=w.heap.size):=aE;have hn2:¬(w.heap.size=w1.heap.size):=aE;have Hb:=Aa (((Ay w.heap.size w).alloc (As _) _).trans (hb.mono aI));have u0:w1.cell? (w,0)=a8:=fx;have u1:w1.cell? (w,1)=a8:=fy;have u2:w1.cell? (w,2)=a8:=fz;have fu:∀j,w1.frozen? ⟨w.heap.size,j,none⟩=false:=fun j=>ft;clear hb hc hfz hz;go_wp2_with fail;refine(Hp.o _).mono ?_;rintro e w2 ⟨rfl,rfl⟩;go_wp2_with fail;refine(Hs.o _).mono ?_;rintro e w2 ⟨rfl,rfl⟩;go_wp2_with fail;go_region_with (go_at_call 95;refine(Hn.o _).mono ?_;rintro e w' ⟨rfl,hb6⟩;obtain⟨hc6,hfz6,hz6⟩:=B4 hb6;have y0:w'.cell? (w,0)=a8:=eh;have y1:w'.cell? (w,1)=a8:=ei;have y2:w'.cell? (w,2)=a8:=ej;have y6:=hz6 w.heap.size aM)
  all_goals
   go_wp2
   refine aC (v:=.tuple #[.agg #[.string ⟨(s.take (s.length - (nm.length+1+1))).toArray⟩,.string ⟨#[64]⟩,nm],.bool false]) (by simp[results,results53,go_sem,u0,u1,u2,fu,hn1,hn2,hzz,y0,y1,y2]) rfl ?_;exact Jg.no Hk.o rfl bB
 have Hp:=Aa (fun W=>Pu r [64] W);have Hs:=Aa (fun W=>Pw r [59] W aE);have Hk:=Aa hk;have q1':¬(r=[110]):=by simpa using q1
 have q2':¬(r=[116]):=by simpa using q2
 have q3':¬(r=[102]):=by simpa using q3
 clear hk k1 k2 k3;rcases hh with hh|⟨hh,hl2⟩
 ·have hp:([64]:List UInt8).isPrefixOf r=false:=by
   cases r with
   |nil=>rfl
   |cons c r=>simp at hh;simp[List.isPrefixOf];exact fun e=>hh e.symm
  rw[hp]at Hp;clear hp hh;go_enter func53,ntmps53;go_wp2_with fail;refine(HT.o _).mono ?_;rintro e w1 ⟨rfl,hb⟩;obtain⟨hc,hfz,hz⟩:=B4 hb;have hzz:=hz w.heap.size aI;have hn1:¬(w1.heap.size=w.heap.size):=aE;have hn2:¬(w.heap.size=w1.heap.size):=aE;have Hb:=Aa (((Ay w.heap.size w).alloc (As _) _).trans (hb.mono aI));have u0:w1.cell? (w,0)=a8:=fx;have u1:w1.cell? (w,1)=a8:=fy;have u2:w1.cell? (w,2)=a8:=fz;have fu:∀j,w1.frozen? ⟨w.heap.size,j,none⟩=false:=fun j=>ft;clear hb hc hfz hz;go_wp2_with fail;refine(Hp.o _).mono ?_;rintro e w2 ⟨rfl,rfl⟩;go_wp2_with fail;refine aC (v:=.tuple #[.agg #[a8,a8,a8],.bool false]) (by simp[results,results53,go_sem,u0,u1,u2,fu,hn1,hn2,hzz]) rfl ?_;exact Jg.no Hk.o rfl aQ
 have hp:([64]:List UInt8).isPrefixOf r=true:=by
  cases r with
  |nil=>simp at hh
  |cons c r=>simp at hh;subst hh;rfl
 have hs:Lib.hasSuffix r [59]=false:=by rw[Pv];simpa using hl2
 rw[hp]at Hp;rw[hs]at Hs;clear hp hs hh hl2;go_enter func53,ntmps53;go_wp2_with fail;refine(HT.o _).mono ?_;rintro e w1 ⟨rfl,hb⟩;obtain⟨hc,hfz,hz⟩:=B4 hb;have hzz:=hz w.heap.size aI;have hn1:¬(w1.heap.size=w.heap.size):=aE;have hn2:¬(w.heap.size=w1.heap.size):=aE;have Hb:=Aa (((Ay w.heap.size w).alloc (As _) _).trans (hb.mono aI));have u0:w1.cell? (w,0)=a8:=fx;have u1:w1.cell? (w,1)=a8:=fy;have u2:w1.cell? (w,2)=a8:=fz;have fu:∀j,w1.frozen? ⟨w.heap.size,j,none⟩=false:=fun j=>ft;clear hb hc hfz hz;go_wp2_with fail;refine(Hp.o _).mono ?_;rintro e w2 ⟨rfl,rfl⟩;go_wp2_with fail;refine(Hs.o _).mono ?_;rintro e w2 ⟨rfl,rfl⟩;go_wp2_with fail;refine aC (v:=.tuple #[.agg #[a8,a8,a8],.bool false]) (by simp[results,results53,go_sem,u0,u1,u2,fu,hn1,hn2,hzz]) rfl ?_;exact Jg.no Hk.o rfl aQ
end
def Qx(f:Fd):List Value:=[(f.tag:Int),f.name,f.kind.signs,f.kind.base,f.kind.name,f.given]
def ifV(f:Fd):Value:=.agg #[(f.tag:Int),f.name,f.kind.signs,f.kind.base,f.kind.name,f.given]
theorem Qcn(f:Fd):(Qx f).length=6:=rfl
def Sx(w:World)(v:Value)(fs:List Fd):Prop:=∃A c,v=.slice A fs.length c/\fs.length<=8/\B8 w A (fs.length*6) (fs.flatMap Qx)
theorem Sx.below{w w':World}{v:Value}{fs:List Fd}(h:Sx w v fs)(hb:Below w w w'):Sx w' v fs:=by
 exact hZ
theorem Sx.at_{w:World}{A:Option Addr}{fs:List Fd}(hr:B8 w A (fs.length*6) (fs.flatMap Qx)){i:Nat}(hi:i<fs.length):
  ∃b off,A=some ⟨b,off,none⟩/\b<w.heap.size/\w.cell? ⟨b,off+i*6,none⟩=some (.int .i64 (fs[i].tag:Int))/\w.cell? ⟨b,off+i*6+1,none⟩=some (.string ⟨fs[i].name.toArray⟩) /\
   w.cell? ⟨b,off+i*6+2,none⟩=some (.string ⟨fs[i].kind.signs.toArray⟩)/\w.cell? ⟨b,off+i*6+3,none⟩=some (.string ⟨fs[i].kind.base.toArray⟩) /\
   w.cell? ⟨b,off+i*6+4,none⟩=some (.string ⟨fs[i].kind.name.toArray⟩)/\w.cell? ⟨b,off+i*6+5,none⟩=some (.string ⟨fs[i].given.toArray⟩):=by
 obtain⟨b,off,e,hlt,hc⟩:=hr.elem Qcn aH hi;refine⟨b,off,e,hlt,?_,?_,?_,?_,?_,?_⟩
 ·exact gP
 ·exact gC
 ·exact gH
 ·have:=hc 3 _ rfl;simpa [Nat.add_assoc]using this
 ·have:=hc 4 _ rfl;simpa [Nat.add_assoc]using this
 have:=hc 5 _ rfl;simpa [Nat.add_assoc]using this
structure PT where
 ty:Ty
 blk:Nat
 fv:Value
def Mu(w:World)(b:Nat):Prop:=∃cs t,w.heap[b]?=some (.cells cs t (0,0))
theorem Mu.belowAt{B:Nat}{w w':World}{b:Nat}(h:Mu w b)(hb:b<B)(hw:Below B w w'):Mu w' b:=by
 obtain⟨cs,t,h⟩:=h;exact⟨cs,t,(hw.block b hb).trans h⟩
theorem Mu.grown{w w':World}{b:Nat}{row:Option Nat}(h:Mu w b)(hb:b<w.heap.size)(hg:w.grownBy w' row)(hne:some b≠row):Mu w' b:=by
 obtain⟨cs,t,h⟩:=h;exact⟨cs,t,(hg.block b hb hne).trans h⟩
theorem Mu.set{w:World}{b o:Nat}(h:Mu w b)(v:Value):Mu (w.setCell ⟨b,o,none⟩ v) b:=by
 obtain⟨cs,t,h⟩:=h;exact⟨_,t,heap_setCell_same w b o cs t v h⟩
theorem Mu.new(w:World)(cs:Array Value)(t:TypeId):Mu (w.alloc (.cells cs t)) w.heap.size:=⟨cs,t,heap_alloc_new w _⟩
def PT.ptr(x:PT):Value:=x.blk
def So(w:World)(x:PT):Prop:=
 x.blk<w.heap.size/\Mu w x.blk/\w.cell? (x.blk,0)=some (.int .u8 (x.ty.sort.toNat:Int))/\w.cell? (x.blk,1)=x.ty.name/\w.cell? (x.blk,2)=some x.fv/\w.cell? (x.blk,3)=some (.string ⟨(Xc x.ty).toArray⟩)/\Sx w x.fv x.ty.fields
theorem So.below{w w':World}{x:PT}(h:So w x)(hb:Below w w w'):So w' x:=by
 obtain⟨h0,hk,h1,h2,h3,h4,h5⟩:=h;obtain⟨hc,_,hz⟩:=B4 hb;exact⟨hz _ h0,hk.belowAt h0 hb,(hc _ _ h0).trans h1,(hc _ _ h0).trans h2,(hc _ _ h0).trans h3,(hc _ _ h0).trans h4,h5.below hb⟩
def Af(xs:List PT):List Ty:=xs.map (·.ty)
def Ew(xs:List PT)(n:C5):Option PT:=xs.find? fun x=>decide (x.ty.name=n)
theorem Jm(xs:List PT)(n:C5):B0 (Af xs) n=(Ew xs n).map (·.ty):=by
 unfold B0 Af Ew;rw[List.find?_map];rfl
theorem Fi{xs:List PT}{n:C5}{x:PT}(h:Ew xs n=some x):x∈xs/\x.ty.name=n/\B0 (Af xs) n=some x.ty:=by
 refine⟨List.mem_of_find?_eq_some h,?_,by rw[Jm,h];rfl⟩;have:=List.find?_some h;simpa using this
def Rc:Option PT->Value
 |some x=>x.ptr
 |none=>.pointer none
def Ts(xs:List PT)(l:Lit):Value:=match l with|.string s=>Rc (Ew xs s)|_=>.pointer none
theorem Tryz.keyStr:Go.Maps.Keyed prog 9:=Go.Maps.string_keyed underlying9
theorem Tryz.zeroPtr(w:World):(zeroValue 76).run prog w=.ok (.pointer none) w:=aJ
def Pc(w:World)(mb:Nat)(xs:List PT):Prop:=Dv prog 9 (.pointer none) w mb xs.length (Ts xs)
def S7(w:World)(p:Value)(xs:List PT):Prop:=
 ∃b A c mb,p=.pointer (some ⟨b,0,none⟩)/\b<w.heap.size/\w.cell? ⟨b,0,none⟩=some (.slice A xs.length c)/\w.cell? ⟨b,1,none⟩=some (.map (some mb))/\B8 w A xs.length (xs.map (·.ptr))/\Pc w mb xs/\(∀x∈xs,So w x)/\xs.Pairwise fun x y=>x.blk≠y.blk
theorem S7.below{w w':World}{p:Value}{xs:List PT}(h:S7 w p xs)(hb:Below w w w'):S7 w' p xs:=by
 obtain⟨b,A,c,mb,e,h0,h1,h2,h3,h4,h5,h6⟩:=h;obtain⟨hc,_,hz⟩:=B4 hb;exact⟨b,A,c,mb,e,hz _ h0,(hc _ _ h0).trans h1,(hc _ _ h0).trans h2,h3.below hb,Dv.below h4 hb,fun x hx=>(h5 x hx).below hb,h6⟩
theorem Qcq{n:C5}(h:n.length<=9223372036854775807):keyOf prog 9 n=some (.string n):=by
 have:=Go.WideMaps.keyOf_string_mk (P:=prog) (k:=9) underlying9 (s:=⟨n.toArray⟩) (by unfold maxLen;exact h);simpa using this
def D4(o:Option Fd)(w:World)(e:Ending)(w':World):Prop:=
 (match o with
  |some f=>e=.returned (.tuple #[ifV f,.bool true])
  |none=>∃(n:Int) (a b c d g:ByteArray),e=.returned (.tuple #[.agg #[.int .i64 n,.string a,.string b,.string c,.string d,.string g],.bool false]))/\Below w w w'
theorem D4.no{w w':World}{e:Ending}{o:Option Fd}(ho:o=none){n:Int}{a b c d g:ByteArray}(he:e=.returned (.tuple #[.agg #[.int .i64 n,.string a,.string b,.string c,.string d,.string g],.bool false]))(hb:Below w w w'):D4 o w e w':=by
 rw[ho];exact⟨⟨n,a,b,c,d,g,he⟩,hb⟩
theorem D4.yes{w w':World}{e:Ending}{o:Option Fd}{f:Fd}(ho:o=some f)(he:e=.returned (.tuple #[ifV f,.bool true]))(hb:Below w w w'):D4 o w e w':=by
 rw[ho];exact⟨he,hb⟩
def Dx(x:Vl × Value):List Value:=[.int .u8 (x.1.what.toNat:Int),x.1.text,(x.1.tag:Int),x.2]
def Mg(v:Vl)(sl:Value):Value:=.agg #[.int .u8 (v.what.toNat:Int),v.text,(v.tag:Int),sl]
theorem Pl(x:Vl × Value):(Dx x).length=4:=rfl
def Ar(xs:List (Vl × Value)):List Vl:=xs.map (·.1)
inductive D1(P:Nat->Prop)(w:World):Value->List Vl->Prop
 |mk {v:Value} {ks:List Vl} (A:Option Addr) (c:Nat) (xs:List (Vl × Value)) (hv:v=.slice A xs.length c) (hk:ks=Ar xs) (hl:xs.length<=1000) (hr:B8 w A (xs.length*4) (xs.flatMap Dx))
   (hP:∀g o,0<xs.length->A=some ⟨g,o,none⟩->P g) (h:∀x∈xs,D1 P w x.2 x.1.kids):D1 P w v ks
theorem D1.kept{P Q:Nat->Prop}{w w':World}{v:Value}{ks:List Vl}(h:D1 P w v ks)(hc:∀b o u,P b->b<w.heap.size->w.cell? ⟨b,o,none⟩=some u->w'.cell? ⟨b,o,none⟩=some u)
  (hz:w.heap.size<=w'.heap.size) (hQ:∀b,P b->b<w.heap.size->Q b):D1 Q w' v ks:=by
 induction h with
 |mk A c xs hv hk hl hr hP h ih=>
  refine .mk A c xs hv hk hl ⟨hr.1,hr.2.1,fun hn=>?_⟩ (fun g o hn e=>?_) ih
  ·obtain⟨b,off,e,hlt,hcs⟩:=hr.2.2 hn;exact⟨b,off,e,by omega,fun j u hu=>hc b _ u (hP b off aE e) hlt (hcs j u hu)⟩
  obtain⟨b,off,e2,hlt,_⟩:=hr.2.2 aE;rw[e]at e2;injection e2 with e2;injection e2 with e2 _ _;subst e2;exact hQ g (hP g o hn e) hlt
theorem D1.after{P:Nat->Prop}{w w':World}{v:Value}{ks:List Vl}(h:D1 P w v ks)(hb:Below w w w'):D1 P w' v ks:=
 h.kept (fun b o u _ hl hu=>(hb.cell (p:=⟨b,o,none⟩) hl).trans hu) hb.size fun _ h _=>h
theorem D1.mono{P Q:Nat->Prop}{w:World}{v:Value}{ks:List Vl}(h:D1 P w v ks)(hQ:∀b,P b->b<w.heap.size->Q b):D1 Q w v ks:=h.kept (fun _ _ _ _ _ hu=>hu) (As _) hQ
theorem D1.grown{P:Nat->Prop}{w w':World}{v:Value}{ks:List Vl}{row:Option Nat}(h:D1 P w v ks)(hg:w.grownBy w' row)(hne:∀b,P b->some b≠row):D1 P w' v ks:=
 h.kept (fun b o u hp _ hu=>hg.cell hu (hne b hp)) hg.size fun _ h _=>h
theorem D1.nil(P:Nat->Prop)(w:World):D1 P w (.slice none 0 0) []:=.mk none 0 [] rfl rfl aI ⟨rfl,af _,fun h=>absurd h aI⟩ (fun _ _ h=>absurd h aI) aI
theorem D1.form{P:Nat->Prop}{w:World}{v:Value}{ks:List Vl}(h:D1 P w v ks):∃A c,v=.slice A ks.length c:=by
 obtain⟨A,c,xs,rfl,rfl,_,_,_,_⟩:=h;exact⟨A,c,by simp[Ar]⟩
theorem D1.at_{w:World}{A:Option Addr}{xs:List (Vl × Value)}(hr:B8 w A (xs.length*4) (xs.flatMap Dx)){i:Nat}(hi:i<xs.length):
  ∃b off,A=some ⟨b,off,none⟩/\b<w.heap.size/\w.cell? ⟨b,off+i*4,none⟩=some (.int .u8 (xs[i].1.what.toNat:Int))/\w.cell? ⟨b,off+i*4+1,none⟩=some (.string ⟨xs[i].1.text.toArray⟩) /\
   w.cell? ⟨b,off+i*4+2,none⟩=some (.int .i64 (xs[i].1.tag:Int))/\w.cell? ⟨b,off+i*4+3,none⟩=some xs[i].2:=by
 obtain⟨b,off,e,hlt,hc⟩:=hr.elem Pl aH hi;refine⟨b,off,e,hlt,?_,?_,?_,?_⟩
 ·exact gP
 ·exact gC
 ·exact gH
 have:=hc 3 _ rfl;simpa [Nat.add_assoc]using this
section
attribute [local go_sem] Qjy Qiu Qil Qgp ByteArray.mk_append_mk
def Dp(w:World)(b:Nat)(p:Value)(t:List UInt8)(bad:Bool):Prop:=b<w.heap.size/\Mu w b/\w.cell? (b,0)=some p/\w.cell? (b,1)=t/\w.cell? (b,2)=some (.bool bad)
theorem Mu.live{w:World}{b:Nat}(h:Mu w b)(o:Nat):w.frozen? ⟨b,o,none⟩=false:=by
 obtain⟨cs,t,h⟩:=h;simp[World.frozen?,h]
theorem Dp.far{w w':World}{b:Nat}{p:Value}{t:List UInt8}{bad:Bool}(h:Dp w b p t bad){B:Nat}(hb:Below B w w')(hB:b<B):Dp w' b p t bad:=by
 obtain⟨h0,h1,h2,h3,h4⟩:=h;exact⟨ab h0 hb.size,h1.belowAt hB hb,(hb.cell (p:=⟨b,0,none⟩) hB).trans h2,(hb.cell (p:=⟨b,1,none⟩) hB).trans h3,(hb.cell (p:=⟨b,2,none⟩) hB).trans h4⟩
theorem Dp.drew{w:World}{b:Nat}{p:Value}{t:List UInt8}{bad:Bool}(h:Dp w b p t bad)(k:Nat):Dp (w.drewN k) b p t bad:=h.far (below_drewN (Ay w.heap.size w) k) h.1
theorem Dp.setBad{w:World}{b:Nat}{p:Value}{t:List UInt8}{bad:Bool}(h:Dp w b p t bad)(x:Bool):Dp (w.setCell ⟨b,2,none⟩ (.bool x)) b p t x:=by
 obtain⟨h0,h1,h2,h3,h4⟩:=h;have hf:=h1.live 2;exact⟨by simpa using h0,h1.set _,by simp[go_sem,h2],by simp[go_sem,h3],by simp[go_sem,h4,hf]⟩
theorem Dp.setText{w:World}{b:Nat}{p:Value}{t:List UInt8}{bad:Bool}(h:Dp w b p t bad)(x:List UInt8):Dp (w.setCell ⟨b,1,none⟩ x) b p x bad:=by
 obtain⟨h0,h1,h2,h3,h4⟩:=h;have hf:=h1.live 1;exact⟨by simpa using h0,h1.set _,by simp[go_sem,h2],by simp[go_sem,h3,hf],by simp[go_sem,h4]⟩
theorem Qbo(w:World)(a:Addr)(v:Value):w.grownBy (w.setCell a v) (some a.block):=
 ⟨rfl,rfl,rfl,by simp,fun k _ hk=>Go.heap_setCell_other _ _ _ _ (fun e=>hk (by rw[e]))⟩
theorem Ap(w:World)(b o:Nat)(v:Value):w.grownBy (w.setCell ⟨b,o,none⟩ v) (some b):=Qbo w ⟨b,o,none⟩ v
theorem D8(b:Nat):∀(vs:List Value) (o:Nat) (w:World),w.grownBy (w.setCells b o vs) (some b)
 |[],_,w=>World.grownBy.refl _ _
 |v::r,o,w=>(Ap w b o v).trans (D8 b r (o+1) _)
theorem Cv{w w':World}(h:Below w w w')(row:Option Nat):w.grownBy w' row:=⟨h.os,h.tape,h.output,h.size,fun k hk _=>h.block k hk⟩
theorem Yq(p s:List UInt8):Dt p s=if p.isPrefixOf s=true then some (s.drop p.length)else none:=by
 by_cases h:p.isPrefixOf s=true
 ·rw[if_pos h];rw[List.isPrefixOf_iff_prefix]at h;obtain⟨t,rfl⟩:=h;rw[Du];simp
 rw[if_neg h];cases e:Dt p s with
 |none=>rfl
 |some r=>
  rw[Du]at e;subst e;exact absurd aI h
theorem Qd0(c:UInt8)(s:List UInt8):Dt [c] s=Ae c s:=by
 unfold Dt;cases Ae c s<;>rfl
def cpV(s:List UInt8):Option (List UInt8)->Value
 |some r=>.tuple #[r,.bool true]
 |none=>.tuple #[s,.bool false]
theorem Va(s p:List UInt8)(w:World)(hs:s.length<=4000000):
  Calls prog 129 #[s,p] w fun e w'=>e=.returned (cpV s (Dt p s))/\∃k,w'=w.drewN k:=by
 have HW:=Aa (Yq p s);have Hp:=Aa (fun W=>Tm s p W);by_cases h:p.isPrefixOf s=true
 ·have HW2:=Aa (HW.o.trans (if_pos h));have hl:p.length<=s.length:=by rw[List.isPrefixOf_iff_prefix]at h;exact h.length_le
  have h1:(p.length:Int)<=(s.length:Int):=aE;have h2:(0:Int)<=(p.length:Int):=aE;rw[h]at Hp;clear h HW;go_enter func129,ntmps129;go_wp2_with fail;refine(Hp.o _).mono ?_;rintro e w1 ⟨rfl,rfl⟩;go_wp2_with fail;go_ret2;exact⟨by rw[HW2.o];rfl,0,rfl⟩
 have HW2:=Aa (HW.o.trans (if_neg h));have h':p.isPrefixOf s=false:=Bool.eq_false_iff.2 h;rw[h']at Hp;clear h h' HW;go_enter func129,ntmps129;go_wp2_with fail;refine(Hp.o _).mono ?_;rintro e w1 ⟨rfl,rfl⟩;go_wp2_with fail;go_ret2;exact⟨by rw[HW2.o];rfl,0,rfl⟩
theorem Vv(s p:List UInt8)(w:World)(hs:s.length<=4000000):
  Calls prog 96 #[s,p] w fun e w'=>e=.returned (cpV s (Dt p s))/\∃k,w'=w.drewN k:=by
 have Hp:=Aa (fun W=>Va s p W hs);cases hw:Dt p s with
 |none=>
  rw[hw]at Hp;clear hw;go_enter func96,ntmps96;go_wp2_with fail;refine(Hp.o _).mono ?_;rintro e w1 ⟨rfl,k,rfl⟩;unfold cpV;go_wp2_with fail;go_ret2;exact⟨rfl,k,rfl⟩
 |some r=>
  rw[hw]at Hp;clear hw;go_enter func96,ntmps96;go_wp2_with fail;refine(Hp.o _).mono ?_;rintro e w1 ⟨rfl,k,rfl⟩;unfold cpV;go_wp2_with fail;go_ret2;exact⟨rfl,k,rfl⟩
def Da(w:World)(b:Nat)(p:Value)(t:List UInt8)(bad:Bool)(w':World):Prop:=Dp w' b p t bad/\w.grownBy w' (some b)
def Aj(lead t:List UInt8)(bad:Bool):Option (List UInt8):=if bad then none else Dt lead t
theorem Dm(b:Nat)(p:Value)(t lead:List UInt8)(bad:Bool)(w:World)(h:Dp w b p t bad)(hl:t.length<=4000000):
  Calls prog 56 #[b,lead] w fun e w'=>
   e=.returned (.bool (Aj lead t bad).isSome)/\Da w b p ((Aj lead t bad).getD t) bad w':=by
 have Hp:=Aa (fun W=>Vv t lead W hl);have HT:=@Aa (Aj lead t bad=if bad then none else Dt lead t) rfl;have HS:=Aa h;obtain⟨h0,h1,h2,h3,h4⟩:=h;have hfz:=h1.live 1;clear h1;cases hw:Dt lead t with
 |none=>
  have HT2:=Aa (show Aj lead t bad=none by rw[HT.o,hw];cases bad<;>rfl);rw[hw]at Hp;clear hw HT;go_enter func56,ntmps56;go_wp2_with fail;refine(Hp.o _).mono ?_;rintro e w1 ⟨rfl,k,rfl⟩;unfold cpV;go_wp2_with fail;go_ret;exact⟨by rw[HT2.o];rfl,by rw[HT2.o];exact⟨HS.o.drew k,Cv (below_drewN (Ay _ _) k) _⟩⟩
 |some r=>
  rw[hw]at Hp;cases bad with
  |true=>
   have HT2:=@Aa (Aj lead t true=none) rfl;clear hw HT;go_enter func56,ntmps56;go_wp2_with fail;refine(Hp.o _).mono ?_;rintro e w1 ⟨rfl,k,rfl⟩;unfold cpV;go_wp2_with fail;go_ret;exact⟨by rw[HT2.o];rfl,by rw[HT2.o];exact⟨HS.o.drew k,Cv (below_drewN (Ay _ _) k) _⟩⟩
  |false=>
   have HT2:=@Aa (Aj lead t false=some r) (HT.o.trans hw);clear hw HT;go_enter func56,ntmps56;go_wp2_with fail;refine(Hp.o _).mono ?_;rintro e w1 ⟨rfl,k,rfl⟩;unfold cpV;go_wp2_with fail;go_ret;exact⟨by rw[HT2.o];rfl,by rw[HT2.o];exact⟨(HS.o.drew k).setText r,(Cv (below_drewN (Ay _ _) k) _).trans (Ap _ _ _ _)⟩⟩
theorem Bf(b:Nat)(p:Value)(t lead:List UInt8)(bad:Bool)(w:World)(h:Dp w b p t bad)(hl:t.length<=4000000):
  Calls prog 55 #[b,lead] w fun e w'=>
   e=.returned (.tuple #[])/\Da w b p ((Aj lead t bad).getD t) (Aj lead t bad).isNone w':=by
 have Hp:=Aa (Dm b p t lead bad w h hl);have HB:=Aa (show ∀r,Aj lead t bad=some r->bad=false by intro r h;cases bad;rfl;cases h);generalize Aj lead t bad=o at Hp HB ⊢;cases o with
 |some r=>
  obtain rfl:=HB.o r rfl;go_enter func55,ntmps55;go_wp2_with fail;refine Hp.o.mono ?_;rintro e w1 ⟨rfl,hs⟩;have HS:=Aa hs;clear hs;go_wp2_with fail;go_end0
  exact⟨rfl,HS.o⟩
 |none=>
  go_enter func55,ntmps55;go_wp2_with fail;refine Hp.o.mono ?_;rintro e w1 ⟨rfl,hs⟩;have HS:=Aa hs;obtain⟨⟨h0,h1,_,_,h4⟩,_⟩:=hs;have hfz:=h1.live 2;clear h1;go_wp2_with fail;go_end0
  exact⟨rfl,HS.o.1.setBad true,HS.o.2.trans (Ap _ _ _ _)⟩
def Qf2:List UInt8:=[48,49,50,51,52,53,54,55,56,57]
theorem Qgb(c:UInt8):Qf2.contains c=Bg c:=by
 have:=Po (p:=fun c=>Qf2.contains c == Bg c) eD c;simpa using this
theorem Qgc(s:List UInt8):s.dropWhile (Qf2.contains ·)=s.dropWhile Bg:=by congr 1;funext c;exact Qgb c
theorem Qf3(s:List UInt8):s.dropWhile (Qbx.contains ·)=s.dropWhile Cg:=by congr 1;funext c;exact Qac c
theorem Ns(p:UInt8->Bool)(s:List UInt8):s.take (s.length - (s.dropWhile p).length)=s.takeWhile p/\(s.dropWhile p).length<=s.length:=by
 have e:s.takeWhile p++s.dropWhile p=s:=List.takeWhile_append_dropWhile;have hl:(s.takeWhile p).length+(s.dropWhile p).length=s.length:=by rw[<-ag,e]
 refine⟨?_,by omega⟩;conv=>lhs;arg 2;rw[<-e]
 rw[show s.length - (s.dropWhile p).length=(s.takeWhile p).length by omega,List.take_left]
def G8(t:List UInt8):Nat:=(Cn (t.takeWhile Bg)).getD 0
def Gj(m:Nat)(t:List UInt8):Bool:=match Cn (t.takeWhile Bg)with|some n=>decide (n<=m)|none=>false
theorem Qhb(m:Nat)(t:List UInt8):pnV (t.takeWhile Bg) m=.tuple #[.int .i64 (G8 t:Int),.bool (Gj m t)]:=by
 unfold pnV G8 Gj;cases Cn (t.takeWhile Bg)<;>rfl
theorem Dp.grow{w w':World}{b:Nat}{p:Value}{t:List UInt8}{bad:Bool}(h:Dp w b p t bad)(hb:Below w w w'):Dp w' b p t bad:=h.far hb h.1
theorem Nw(b m:Nat)(p:Value)(t:List UInt8)(bad:Bool)(w:World)(h:Dp w b p t bad)(hl:t.length<=4000000)(hm:m<=999999):
  Calls prog 98 #[b,.int .i64 m] w fun e w'=>
   e=.returned (.int .i64 (G8 t:Int))/\Da w b p (t.dropWhile Bg) (bad || !Gj m t) w':=by
 have Htl:=Aa (fun W=>Jw t Qf2 W aH aH);simp only[Qgc]at Htl;have Hpn:=Aa (fun W=>Gk (t.takeWhile Bg) m W (by have:=(Ns Bg t).1;have h2:=List.length_take_le (t.length - (t.dropWhile Bg).length) t;rw[this]at h2;omega) hm);rw[Qhb]at Hpn;obtain⟨htk,hdl⟩:=Ns Bg t;have Htk:=Aa htk;unfold Qf2 at Htl;have HS:=Aa h;have kw:IntKind.i64.wrap ((t.length:Int) - ((t.dropWhile Bg).length:Int))=(t.length:Int) - ((t.dropWhile Bg).length:Int):=IntWalk.i64_in _ aE;have k1:(0:Int)<=(t.length:Int) - ((t.dropWhile Bg).length:Int):=aE;have k2:(t.length:Int) - ((t.dropWhile Bg).length:Int)<=(t.length:Int):=aE;have k3:((t.length:Int) - ((t.dropWhile Bg).length:Int)).toNat=t.length - (t.dropWhile Bg).length:=aE;generalize G8 t=n at *;generalize Gj m t=ok at *;generalize t.takeWhile Bg=a at *;generalize t.dropWhile Bg=r at *;obtain⟨h0,h1,h2,h3,h4⟩:=h;clear htk h1;go_enter func98,ntmps98;go_wp2_with fail;refine(Htl.o _).mono ?_;rintro e w1 ⟨rfl,hb1⟩;have HS1:=Aa (HS.o.grow hb1);have Hb1:=Aa hb1;have C1:=Aa ((hb1.cell (p:=⟨b,1,none⟩) h0).trans h3);have hz1:b<w1.heap.size:=by have:=hb1.size;omega
 clear hb1 HS h2 h3 h4;go_wp2_with fail;refine Sy [14,15,16,17,18,19,20,21,22,23,24,25,26,27,28,13,29,30,6,7]
  (fun ix v W=>match ix with|0=>v=b|1=>v=b|2=>v=(b,1)|3=>v=t|4=>v=b|5=>v=b|6=>v=(b,1)|7=>v=t|8=>v=(t.length:Int)|9=>v=r|10=>v=(r.length:Int)|11=>v=.int .i64 ((t.length:Int) - (r.length:Int))|12=>v=a|13=>v=(m:Int)|14=>v=.tuple #[(n:Int),.bool ok]|15=>v=.tuple #[(n:Int),.bool ok]|16=>v=(n:Int)|17=>v=.bool ok|18=>v=(n:Int)|19=>v=.bool ok|_=>True)
  (fun L U W=>∃k,W=w1.drewN k) (⟨1,rfl⟩) ?_ ?_
 ·repeat (first|exact Ba.nil|(refine Ba.cons ?_ ?_;rotate_left))
  all_goals
   rintro L U W hL hpre HR Hdep K hK;obtain⟨k,hk⟩:=HR.o;have c1:W.cell? (b,1)=t:=by rw[hk];exact C1.o
   clear hk;first|(simp[Region.binds]at hpre;done)|simp[Region.binds]at hpre|clear hpre
  iterate 11
   ·exact fG
  ·exact gY
  ·exact gN
  ·exact fG
  ·go_simp;refine(Hpn.o W).mono ?_;rintro e w' ⟨rfl,rfl⟩;exact kF hK HR.o
  iterate 5
   ·exact fG
 rintro L U W hL hφ hR;have e18:U 18=(n:Int):=hφ 18 aH;have e19:U 19=.bool ok:=hφ 19 aH;simp only[e18,e19];clear hφ;obtain⟨k,rfl⟩:=hR;clear hL;have HS2:=Aa (HS1.o.drew k);have Hb2:=Aa (below_drewN Hb1.o k);obtain⟨q0,q1,_,_,_⟩:=HS2.o;have hf1:=q1.live 1;have hf2:=q1.live 2;clear q1;have j2:=HS2.o.2.2.2.1;have j3:=HS2.o.2.2.2.2;cases ok with
 |true=>
  go_wp2_with fail;go_ret;refine⟨rfl,by simpa using HS2.o.setText r,(Cv Hb2.o _).trans (Ap _ _ _ _)⟩
 |false=>
  go_wp2_with fail;go_ret;refine⟨rfl,by simpa using(HS2.o.setBad true).setText r,((Cv Hb2.o _).trans (Ap _ _ _ _)).trans (Ap _ _ _ _)⟩
def Qie(t:List UInt8)(bad:Bool)(b:Nat)(p:Value)(w:World)(e:Ending)(w':World):Prop:=
 ∃(x t':List UInt8) (bad':Bool),e=.returned x/\Da w b p t' bad' w'/\(if bad then none else Mj t)=(if bad' then none else some (x,t'))/\x.length+t'.length<=t.length
theorem Pn{c:UInt8}{t:List UInt8}:((Ae c t).getD t).length<=t.length:=by
 cases h:Ae c t with
 |none=>exact As _
 |some r=>rw[Ax]at h;subst h;simp
theorem Be(c:UInt8)(t:List UInt8)(bad:Bool):Aj [c] t bad=if bad then none else Ae c t:=by unfold Aj;rw[Qd0]
theorem Qas(t t1 t3:List UInt8)(bad b1 b2 b3:Bool)(h1:t1=(Aj [39] t bad).getD t)(hb1:b1=(Aj [39] t bad).isNone)(h3:t3=(Aj [39] (t1.dropWhile Cg) b1).getD (t1.dropWhile Cg))(hb2:b2=(Aj [39] (t1.dropWhile Cg) b1).isNone)
  (hb3:b3=(b2 || decide (12<(t1.takeWhile Cg).length))):
  (if bad then none else Mj t)=(if b3 then none else some (t1.takeWhile Cg,t3))/\(t1.takeWhile Cg).length+t3.length<=t.length:=by
 have e:(t1.takeWhile Cg).length+(t1.dropWhile Cg).length=t1.length:=by rw[<-ag,List.takeWhile_append_dropWhile]
 rw[Be]at h1 hb1 h3 hb2;subst h1 hb1 h3 hb2 hb3;constructor
 ·cases bad with
  |true=>simp
  |false=>
   unfold Mj;simp only[ak,if_false];cases Ae 39 t with
   |none=>simp
   |some r=>
    simp only[Option.getD_some,Option.isNone_some,ak,if_false];cases Ae 39 (r.dropWhile Cg)with
    |none=>simp
    |some q=>
     simp only[Option.getD_some,Option.isNone_some,Bool.false_or,decide_eq_true_eq];by_cases h:(r.takeWhile Cg).length<=12
     ·rw[if_pos h,if_neg aE]
     rw[if_neg h,if_pos aE]
 have k1:((if bad=true then none else Ae 39 t).getD t).length<=t.length:=by cases bad;exact Pn;exact As _
 generalize (if bad=true then none else Ae 39 t)=o at *;have k2:((if o.isNone=true then none else Ae 39 ((o.getD t).dropWhile Cg)).getD ((o.getD t).dropWhile Cg)).length<=((o.getD t).dropWhile Cg).length:=by cases o.isNone;exact Pn;exact As _
 omega
theorem Qbm(b:Nat)(p:Value)(t:List UInt8)(bad:Bool)(w:World)(h:Dp w b p t bad)(hl:t.length<=4000000):
  Calls prog 99 #[b] w (Qie t bad b p w):=by
 have Hq:=Aa (Qas t);have Hw1:=Aa (fun W (h:Dp W b p t bad)=>Bf b p t [39] bad W h hl);have hk1:((Aj [39] t bad).getD t).length<=t.length:=f7;have HS:=Aa h;clear h;obtain⟨t1,ht1⟩:∃t1,t1=(Aj [39] t bad).getD t:=⟨_,rfl⟩
 obtain⟨b1,hb1⟩:∃b1,b1=(Aj [39] t bad).isNone:=⟨_,rfl⟩
 rw[<-ht1]at hk1;have Hq:=Aa (fun t3 b2 b3=>Hq.o t1 t3 bad b1 b2 b3 ht1 hb1);rw[<-ht1,<-hb1]at Hw1;clear ht1 hb1;have Htl:=Aa (fun W=>Jw t1 Qbx W aH aH);simp only[Qf3]at Htl;unfold Qbx at Htl;obtain⟨htk,hdl⟩:=Ns Cg t1;have Htk:=Aa htk;have Hw2:=Aa (fun W (h:Dp W b p (t1.dropWhile Cg) b1)=>Bf b p (t1.dropWhile Cg) [39] b1 W h aE);clear htk;go_enter func99,ntmps99;go_wp2_with fail;refine(Hw1.o _ HS.o).mono ?_;rintro e w1 ⟨rfl,hs1,hg1⟩;have HS1:=Aa hs1;have Hg1:=Aa hg1;obtain⟨z1,_,_,c1,_⟩:=hs1;clear hg1;go_wp2_with fail;refine(Htl.o _).mono ?_;rintro e w2 ⟨rfl,hb2⟩;have HS2:=Aa (HS1.o.grow hb2);have Hg2:=Aa (Hg1.o.trans (Cv hb2 _));have C2:=Aa HS2.o.2.2.2.1;have hz2:b<w2.heap.size:=HS2.o.1;clear hb2 c1 z1;have kw:IntKind.i64.wrap ((t1.length:Int) - ((t1.dropWhile Cg).length:Int))=(t1.length:Int) - ((t1.dropWhile Cg).length:Int):=IntWalk.i64_in _ aE;have k1:(0:Int)<=(t1.length:Int) - ((t1.dropWhile Cg).length:Int):=aE;have k2:(t1.length:Int) - ((t1.dropWhile Cg).length:Int)<=(t1.length:Int):=aE;have k3:((t1.length:Int) - ((t1.dropWhile Cg).length:Int)).toNat=t1.length - (t1.dropWhile Cg).length:=aE;obtain⟨a,ha⟩:∃a,a=t1.takeWhile Cg:=⟨_,rfl⟩
 obtain⟨r,hr⟩:∃r,r=t1.dropWhile Cg:=⟨_,rfl⟩
 rw[<-ha]at Htk;rw[<-hr]at Htk Hw2 hdl kw k1 k2 k3;simp only[<-hr];have Hq:=Aa (fun t3 b2 b3=>Hq.o t3 b2 b3);simp only[<-hr,<-ha]at Hq;clear ha hr;go_wp2_with fail;refine Sy [12,13,14,15,16,17,18,19,20,21,22,23,24,4]
  (fun ix v W=>match ix with|0=>v=b|1=>v=b|2=>v=(b,1)|3=>v=.string ⟨t1.toArray⟩|4=>v=b|5=>v=b|6=>v=(b,1)|7=>v=.string ⟨t1.toArray⟩|8=>v=(t1.length:Int)|9=>v=.string ⟨r.toArray⟩|10=>v=(r.length:Int)|11=>v=.int .i64 ((t1.length:Int) - (r.length:Int))|12=>v=.string ⟨a.toArray⟩|13=>v=.string ⟨a.toArray⟩|_=>True)
  (fun L U W=>∃k,W=w2.drewN k) (⟨1,rfl⟩) ?_ ?_
 ·repeat (first|exact Ba.nil|(refine Ba.cons ?_ ?_;rotate_left))
  all_goals
   rintro L U W hL hpre HR Hdep K hK;obtain⟨k,hk⟩:=HR.o;have c1:W.cell? (b,1)=some (.string ⟨t1.toArray⟩):=by rw[hk];exact C2.o
   clear hk;first|(simp[Region.binds]at hpre;done)|simp[Region.binds]at hpre|clear hpre
  iterate 11
   ·exact fG
  ·exact gY
  ·exact gN
  ·exact fG
 rintro L U W hL hφ hR;have e13:U 13=.string ⟨a.toArray⟩:=hφ 13 aH;simp only[e13];clear hφ;obtain⟨k,rfl⟩:=hR;clear hL;have HS3:=Aa (HS2.o.drew k);have Hg3:=Aa (Hg2.o.trans (Cv (below_drewN (Ay _ _) k) _));have hf1:=HS3.o.2.1.live 1;have q0:=HS3.o.1;have j2:=HS3.o.2.2.2.1;have j3:=HS3.o.2.2.2.2;go_wp2_with fail;refine(Hw2.o _ (HS3.o.setText r)).mono ?_;rintro e w4 ⟨rfl,hs4,hg4⟩;have HS4:=Aa hs4;have Hg4:=Aa ((Hg3.o.trans (Ap _ _ _ _)).trans hg4);clear hg4 hs4 j2 j3 hf1 q0;have Hq4:=Aa (fun b3=>Hq.o _ _ b3 rfl rfl);generalize (Aj [39] r b1).getD r=t3 at *;generalize (Aj [39] r b1).isNone=b2 at *;have hf2:=HS4.o.2.1.live 2;have q0:=HS4.o.1;have k3:=HS4.o.2.2.2.2;by_cases hlen:a.length<=12
 ·have t1:decide ((12:Int)<(a.length:Int))=false:=aM;go_wp2_with fail;go_ret;obtain⟨h1,h2⟩:=Hq4.o b2 aM;exact⟨a,t3,b2,rfl,⟨HS4.o,Hg4.o⟩,h1,h2⟩
 have t1:decide ((12:Int)<(a.length:Int))=true:=aM;go_wp2_with fail;go_ret;obtain⟨h1,h2⟩:=Hq4.o true aM;exact⟨a,t3,true,rfl,⟨HS4.o.setBad true,Hg4.o.trans (Ap _ _ _ _)⟩,h1,h2⟩
end
theorem Tryz.xtraJ:Builder.Extra prog Tryz.lays156_ren where
 sizeBuilder:=aJ
 liesBuilder:=aJ
 t5:=underlying5
 a5:=isAgg5
 z5:=sizeOf5
 v5:=zeroValue5
 infoByte:=aJ
 cellsByte:=aJ
 sizeByte:=aJ
 neB5:=aH
theorem Vf(c:UInt8):∀ps:List (List UInt8),Lib.join ps [c]=An c ps
 |[]=>rfl
 |[p]=>by rw[Lib.join_one];rfl
 |p::q::r=>by
  have ih:=Vf c (q::r);rw[Cf c p aI,<-ih,Lib.join_cons p,Lib.join_cons q];simp[Lib.joinTail]
theorem Qco(ps:List (List UInt8)):ps.length<=Cq ps:=by
 induction ps with
 |nil=>exact As _
 |cons p ps ih=>rw[De,List.length_cons];omega
theorem Qir(sep:List UInt8)(A:Option Addr)(c:Nat)(ps:List (List UInt8))(w:World)(hr:B8 w A ps.length (Br ps))(hcp:ps.length<=c)(hl:Cq ps<=2000000)(hj:(Lib.join ps sep).length<=2000000):
  Calls prog 37 #[.slice A ps.length c,sep] w fun e w'=>e=.returned (.string ⟨(Lib.join ps sep).toArray⟩)/\Below w w w':=by
 by_cases h0:ps.length=0
 ·have e0:ps=[]:=List.length_eq_zero_iff.1 h0;subst e0;exact(Any.strings_Join_none Tryz.lays156 Tryz.xtraJ A c ⟨sep.toArray⟩ w).mono fun e w' ⟨he,hw⟩=>⟨he,hw ▸ Ay _ _⟩
 have hpl:=Qco ps;obtain⟨hlc,_,hrow⟩:=hr;obtain⟨b,off,rfl,hb,hcl⟩:=hrow aE;have e1:(ps.map fun p=>(⟨p.toArray⟩:ByteArray)).map (·.data.toList)=ps:=by rw[List.map_map];exact List.map_id ps
 have h:=Any.strings_Join Tryz.lays156 Tryz.xtraJ b off c (ps.map fun p=>(⟨p.toArray⟩:ByteArray)) ⟨sep.toArray⟩ w (fun j x hx=>by
  rw[List.getElem?_map]at hx;obtain⟨p,hp,rfl⟩:=Option.map_eq_some_iff.1 hx;exact hcl j _ (by rw[Br,List.getElem?_map,hp];rfl)) hb (by rw[List.length_map];omega) (by rw[List.length_map];exact hcp) (by rw[e1];show (Lib.join ps sep).length<=_;omega)
 rw[e1,List.length_map]at h;exact h
theorem Qii(s:UInt8)(A:Option Addr)(c:Nat)(ps:List (List UInt8))(w:World)(hr:B8 w A ps.length (Br ps))(hcp:ps.length<=c)(hl:Cq ps<=2000000):
  Calls prog 37 #[.slice A ps.length c,.string ⟨#[s]⟩] w fun e w'=>e=.returned (.string ⟨(An s ps).toArray⟩)/\Below w w w':=by
 have:=Qir [s] A c ps w hr hcp hl (by rw[Vf,B1];omega);rwa [Vf]at this
theorem Qih(A:Option Addr)(c:Nat)(ps:List (List UInt8))(w:World)(hr:B8 w A ps.length (Br ps))(hcp:ps.length<=c)(hl:Cq ps<=2000000):
  Calls prog 37 #[.slice A ps.length c,.string ⟨#[44]⟩] w fun e w'=>e=.returned (.string ⟨(An 44 ps).toArray⟩)/\Below w w w':=Qii 44 A c ps w hr hcp hl
section
attribute [local go_sem] Qjy Qiu Qil Qgp ByteArray.mk_append_mk
inductive Bd:Vl->Prop
 |mk {w:UInt8} {tx:List UInt8} {tg:Nat} {ks:List Vl} (h1:tg<=1000000000) (h2:Cq (ks.map Au)<=1000000) (h3:tx.length<=1000000) (h:∀x∈ks,Bd x):Bd (.mk w tx tg ks)
theorem Jd{w:World}{base k n:Nat}{e:TypeId}{v:Value}{xs:List Value}(h:w.ownsRow base e k v n xs):∃A m c,v=.slice A m c:=by
 rcases h.2 with⟨rfl,_⟩|⟨g,cap,cur,rfl,_⟩
 ·exact⟨_,_,_,rfl⟩
 exact⟨_,_,_,rfl⟩
theorem Qhs{w:World}{base n m c:Nat}{e:TypeId}{A:Option Addr}{xs:List Value}(h:w.ownsRow base e 1 (.slice A m c) n xs):m=n/\n<=c\/n=0/\m=0:=by
 rcases h.2 with⟨e,h0⟩|⟨g,cap,cur,e,_,_,hnc,_⟩
 ·injection e with _ e1 e2;exact .inr ⟨h0,e1⟩
 injection e with _ e1 e2;subst e1 e2;exact .inl ⟨rfl,hnc⟩
theorem Qim(w:UInt8)(tx:List UInt8)(tg:Nat)(ps:List (List UInt8)):Ez w tx tg ps=if w=116 then 39::(tx++[39])
  else if w=91 then 91::(An 44 ps++[93])else if w=63 then(if ps.length=0 then[45]else 43::An 44 ps)else if w=61 then Az tg++61::An 44 ps else if w=82 then 123::(An 44 ps++[125])
  else if w=85 then 60::(Az tg++61::(An 44 ps++[62]))else if w=69 then 35::Az tg else tx:=by
 unfold Ez;cases ps<;>rfl
theorem Qah(P:Nat->Prop)(v:Vl)(sl:Value)(w:World)(h:D1 P w sl v.kids)(hb:Bd v)
  (ih:∀x∈v.kids,∀s W,D1 P W s x.kids->Calls prog 26 #[Mg x s] W fun e w'=>e=.returned (.string ⟨(Au x).toArray⟩)/\Below W W w'):
  Calls prog 26 #[Mg v sl] w fun e w'=>e=.returned (.string ⟨(Au v).toArray⟩)/\Below w w w':=by
 have Ih:=Aa ih;obtain⟨wh,tx,tg,ks⟩:=v;obtain⟨h1,h2,h3,_⟩:=hb;have HF:=Aa (Rw wh tx tg ks);simp only[Vl.kids]at h;have Ih:=@Aa (∀x∈ks,∀s W,D1 P W s x.kids->_) ih;obtain⟨A,c,xs,rfl,rfl,hl,hr,hP,hk⟩:=h;have Hr:=Aa hr;have Hk:=Aa hk;have hxl:(Ar xs).length=xs.length:=by simp[Ar]
 have Hd:=Aa (fun W=>Pe tg tg W (As _) h1);clear hr hk ih hP;unfold Mg;simp only[Vl.what,Vl.text,Vl.tag];go_enter func26,ntmps26;go_wp2_with fail;obtain⟨w1,hw1⟩:∃w1,w1=w.alloc (.cells #[.int .u8 (wh.toNat:Int),tx,(tg:Int),.slice A xs.length c] 42):=⟨_,rfl⟩
 rw[<-hw1];have c0:w1.cell? (w,0)=some (.int .u8 (wh.toNat:Int)):=dh;have c1:w1.cell? (w,1)=tx:=dh;have c2:w1.cell? (w,2)=(tg:Int):=dh;have c3:w1.cell? (w,3)=some (.slice A xs.length c):=dh;have hz1:w1.heap.size=w.heap.size+1:=dh;have Hb1:=Aa (show Below w w w1 by rw[hw1];exact(Ay _ _).alloc (As _) _);have Hr1:=Aa (Hr.o.below Hb1.o);have Hk1:=Aa (fun x hx=>(Hk.o x hx).after Hb1.o);have hB:w.heap.size<w1.heap.size:=aE;generalize hB0:w.heap.size=B at *;have HB0:=Aa hB0;clear hB0;clear hw1 Hr Hk;go_loopw [10,3] (fun i u wr=>∃(m:Nat) (A3:Option Addr) (n3 q3:Nat),i=.int .i64 m/\u=.slice A3 n3 q3/\m<=xs.length/\Hid (wr.ownsRow w1 9 1 (.slice A3 n3 q3) m (Br ((xs.take m).map fun x=>Au x.1)))/\Hid (Below w1 w1 wr)) (fun i _ _=>xs.length - (intOf i).toNat)
 case atStart=>exact⟨0,none,0,0,rfl,rfl,af _,World.ownsRow_nil _ _ _ _,Ay _ _⟩
 case round=>
  obtain⟨m,A3,n3,q3,rfl,rfl,hm,Hown,Hbr⟩:=hrel;have m1:(0:Int)<=(m:Int):=aE;by_cases hlt:m<xs.length
  ·have m2:(m:Int)<(xs.length:Int):=aE;obtain⟨b,off,rfl,hb,d0,d1,d2,d3⟩:=D1.at_ (Hr1.o.below Hbr.o) hlt;have hkx:=(Hk1.o _ (ad hlt)).after Hbr.o;have Hkx:=Aa hkx;have Hmx:=@Aa (xs[m].1∈Ar xs) (am (ad hlt));have Hts:=Aa (Bx xs m hlt);have hsz:w1.heap.size<=wr.heap.size:=Hbr.o.size;have hbn:¬(b=wr.heap.size):=aE;clear hkx;generalize xs[m]=x at *;obtain⟨y,ys⟩:=x;obtain⟨A7,c7,e7⟩:=Hkx.o.form;simp only at e7 d0 d1 d2 d3 Hkx Hmx;subst e7;have Hx:=Aa (fun W=>Ih.o y Hmx.o (.slice A7 y.kids.length c7) W);unfold Mg at Hx;go_wp2_with fail;refine(Hx.o _ (Hkx.o.after ((Ay _ _).alloc (As _) _))).mono ?_;rintro e w3 ⟨rfl,hb3⟩;have Hb3:=Aa (((Ay _ _).alloc (As _) _).trans (hb3.mono aI));have Ho3:=Aa (Bm Hown.o Hb3.o);have hs3:w1.heap.size<=w3.heap.size:=ac hsz Hb3.o.size;clear hb3;go_wp2_with (at_builtin;refine N8 _ rfl _ _ 63 rfl w1 9 a8 16 underlying63 Q7 rfl w3 (.string ⟨(Au y).toArray⟩) rfl rfl (.slice A3 n3 q3) m (Br ((xs.take m).map fun x=>Au x.1)) rfl rfl Ho3.o aW aE hs3 ?_;intro v' w5 hown5 hb5;obtain⟨A5,n5,c5,rfl⟩:=Jd hown5;have Ho:=Aa hown5;have Hb5:=Aa hb5;clear hown5 hb5)
   go_roundw
   case rel=>exact⟨m+1,A5,n5,c5,by go_num,rfl,by omega,(by rw[Hts.o,aw,Vi];exact Ho.o),(Hbr.o.trans (Hb3.o.mono hsz)).trans Hb5.o⟩
   case measure=>simp[intOf];omega
  ·obtain rfl:m=xs.length:=aE;have hown6:=Hown.o;rw[List.take_length]at hown6;have hrow:=B8.own hown6;obtain⟨A6,c6,e6,hr6⟩:=hrow;have hcap:=Qhs hown6;injection e6 with e7 e8 e9;subst e7 e8 e9;have Hps:=Aa (show (xs.map fun x=>Au x.1)=(Ar xs).map Au by simp[Ar]);have hpl:(xs.map fun x=>Au x.1).length=xs.length:=aI
   have Hj:=Aa (fun W (hW:B8 W A3 xs.length (Br (xs.map fun x=>Au x.1)))=>(by
    have:=Qih A3 q3 (xs.map fun x=>Au x.1) W (by rw[hpl];exact hW) (by rw[hpl];omega) (by rw[Hps.o];omega);rw[hpl]at this;exact this:Calls prog 37 #[.slice A3 xs.length q3,.string ⟨#[44]⟩] W fun e w'=>e=.returned (.string ⟨(An 44 (xs.map fun x=>Au x.1)).toArray⟩)/\Below W W w'))
   have HF:=Aa (show Au (.mk wh tx tg (Ar xs))=_ by rw[HF.o,<-Hps.o,Qim,hpl]);have hjl:(An 44 (xs.map fun x=>Au x.1)).length<=1000000:=by rw[B1,Hps.o];omega
   have hdl:(Az tg).length<=11:=Df 10 tg (by have e:10 ^ (10+1)=100000000000:=rfl;omega);generalize (xs.map fun x=>Au x.1)=ps at *;generalize An 44 ps=jt at *;have Hr6:=Aa hr6;have Hb6:=Aa (Hb1.o.trans (Hbr.o.mono aE));clear hown6 hr6 hcap Hps hpl Hown Ih Hk1 Hr1;go_wp2_with fail;refine(Hj.o _ Hr6.o).mono ?_;rintro e w4 ⟨rfl,hb4⟩;have Hb4:=Aa (Hb6.o.trans (hb4.mono dI));have hc4:=fun j=>(hb4.cell (p:=⟨B,j,none⟩) (show B<wr.heap.size by have:=Hbr.o.size;omega)).trans (Hbr.o.cell (p:=⟨B,j,none⟩) hB);have g0:=(hc4 0).trans c0;have g1:=(hc4 1).trans c1;have g2:=(hc4 2).trans c2;have g3:=(hc4 3).trans c3;clear hc4 hb4 Hj Hr6 Hb6 Hbr Hb1;by_cases a116:wh=116
   ·have HF:=Aa (HF.o.trans (if_pos a116));have t116:((wh.toNat:Int) == 116)=true:=Bs (d:=116) a116;clear a116;go_wp2_with fail;exact io
   have HF:=Aa (HF.o.trans (if_neg a116));have t116:((wh.toNat:Int) == 116)=false:=Am (d:=116) a116;clear a116;by_cases a91:wh=91
   ·have HF:=Aa (HF.o.trans (if_pos a91));have t91:((wh.toNat:Int) == 91)=true:=Bs (d:=91) a91;clear a91;go_wp2_with fail;exact io
   have HF:=Aa (HF.o.trans (if_neg a91));have t91:((wh.toNat:Int) == 91)=false:=Am (d:=91) a91;clear a91;by_cases a63:wh=63
   ·have HF:=Aa (HF.o.trans (if_pos a63));have t63:((wh.toNat:Int) == 63)=true:=Bs (d:=63) a63;clear a63;by_cases h0:xs.length=0
    ·have e0:((xs.length:Int) == 0)=true:=by simp[h0]
     have HF:=Aa (HF.o.trans (if_pos h0));clear h0;go_wp2_with fail;exact ip
    have e0:((xs.length:Int) == 0)=false:=bK;have HF:=Aa (HF.o.trans (if_neg h0));clear h0;go_wp2_with fail;exact ip
   have HF:=Aa (HF.o.trans (if_neg a63));have t63:((wh.toNat:Int) == 63)=false:=Am (d:=63) a63;clear a63;by_cases a61:wh=61
   ·have HF:=Aa (HF.o.trans (if_pos a61));have t61:((wh.toNat:Int) == 61)=true:=Bs (d:=61) a61;clear a61;go_wp2_with fail;refine(Hd.o _).mono ?_;rintro e w5 ⟨rfl,hb5⟩;have Hb4:=Aa (Hb4.o.trans (hb5.mono dH));clear hb5;go_wp2_with fail;exact io
   have HF:=Aa (HF.o.trans (if_neg a61));have t61:((wh.toNat:Int) == 61)=false:=Am (d:=61) a61;clear a61;by_cases a82:wh=82
   ·have HF:=Aa (HF.o.trans (if_pos a82));have t82:((wh.toNat:Int) == 82)=true:=Bs (d:=82) a82;clear a82;go_wp2_with fail;exact io
   have HF:=Aa (HF.o.trans (if_neg a82));have t82:((wh.toNat:Int) == 82)=false:=Am (d:=82) a82;clear a82;by_cases a85:wh=85
   ·have HF:=Aa (HF.o.trans (if_pos a85));have t85:((wh.toNat:Int) == 85)=true:=Bs (d:=85) a85;clear a85;go_wp2_with fail;refine(Hd.o _).mono ?_;rintro e w5 ⟨rfl,hb5⟩;have Hb4:=Aa (Hb4.o.trans (hb5.mono dH));clear hb5;go_wp2_with fail;exact io
   have HF:=Aa (HF.o.trans (if_neg a85));have t85:((wh.toNat:Int) == 85)=false:=Am (d:=85) a85;clear a85;by_cases a69:wh=69
   ·have HF:=Aa (HF.o.trans (if_pos a69));have t69:((wh.toNat:Int) == 69)=true:=Bs (d:=69) a69;clear a69;go_wp2_with fail;refine(Hd.o _).mono ?_;rintro e w5 ⟨rfl,hb5⟩;have Hb4:=Aa (Hb4.o.trans (hb5.mono dH));clear hb5;go_wp2_with fail;exact io
   have HF:=Aa (HF.o.trans (if_neg a69));have t69:((wh.toNat:Int) == 69)=false:=Am (d:=69) a69;clear a69;go_wp2_with fail;exact ip
theorem Nb(P:Nat->Prop){v:Vl}(hb:Bd v):∀(sl:Value) (w:World),D1 P w sl v.kids ->
  Calls prog 26 #[Mg v sl] w fun e w'=>e=.returned (.string ⟨(Au v).toArray⟩)/\Below w w w':=by
 induction hb with
 |mk h1 h2 h3 h ih=>exact fun sl w hk=>Qah P _ sl w hk (.mk h1 h2 h3 h) fun x hx s W hs=>ih x hx s W hs
section
variable {P:Program}
theorem Ag{fn:Func}{p:Tmp}{ty:TypeId}(h:fn.results=#[.cell p ty])(tmps:Array Value)(w:World)(b:Nat)(cs:List Value)(d:TypeDesc)
  (hp:tmps.getD p undef=b) (hc:w.rangeAt b 0 cs) (hu:P.underlying ty=some d) (hd:d.isRow=true) (hi:(P.info? ty).map (·.size)=some cs.length):
  (results fn tmps).run P w=.ok (.agg cs.toArray) w:=by
 have hp':tmps[p]?.getD undef=b:=by simpa using hp
 simp[results,h,hp',asAddr,run_loadVar_mid w b 0 ty cs d hc hu hd hi]
end
theorem El(b nm:ByteArray)(w:World):Calls prog 35 #[.agg #[a8,.string b,.string nm]] w fun e w'=>e=.returned (.int .u8 0)/\Below w w w':=by
 go_enter func35,ntmps35;go_wp2_with fail;go_ret;exact⟨rfl,(Ay _ _).alloc (As _) _⟩
theorem Fr(c:UInt8)(t:List UInt8)(hl:t.length<=1000)(b nm:ByteArray)(w:World):Calls prog 35 #[.agg #[.string ⟨(c::t).toArray⟩,.string b,.string nm]] w fun e w'=>e=.returned (.int .u8 (c.toNat:Int))/\Below w w w':=by
 go_enter func35,ntmps35;go_wp2_with fail;go_ret;exact⟨rfl,(Ay _ _).alloc (As _) _⟩
theorem Pf(k:Kd)(w:World)(c:UInt8)(t:List UInt8)(hs:k.signs=c::t)(hl:t.length<=1000):
  Calls prog 36 #[Gb k] w fun e w'=>e=.returned (Gb k.part)/\Below w w w':=by
 have hp:k.part=⟨t,k.base,k.name⟩:=by unfold Kd.part;rw[hs];rfl
 rw[hp];unfold Gb;rw[hs];clear hp hs;go_enter func36,ntmps36;go_wp2_with fail;refine aC (v:=.agg ([t,k.base,k.name]:List Value).toArray) ?_ rfl ?_
 ·refine Ag results36 _ _ (w.heap.size+1) _ _ rfl ?_ underlying39 rfl aJ;intro j v hv;match j,hv with
  |0,hv=>simp at hv;subst hv;simp[go_sem]
  |1,hv=>simp at hv;subst hv;simp[go_sem]
  |2,hv=>simp at hv;subst hv;simp[go_sem]
  |n+3,hv=>simp at hv
 exact⟨rfl,((Ay _ _).alloc (As _) _).alloc aI _⟩
theorem Yb{w W:World}{row:Option Nat}{B o:Nat}(h:w.grownBy W row)(hB:w.heap.size<=B):∀(cs:List Value) (o:Nat),w.grownBy (W.setCells B o cs) row:=by
 intro cs;induction cs generalizing W with
 |nil=>intro o;exact h
 |cons v cs ih=>
  intro o;refine ih (W:=W.setCell ⟨B,o,none⟩ v) ⟨h.os,h.tape,h.output,by simpa using h.size,fun k hk hne=>?_⟩ (o+1);rw[Go.heap_setCell_other _ _ _ _ (show k≠B by omega)];exact h.block k hk hne
theorem Da.trans{w w1 w2:World}{b:Nat}{p:Value}{t t':List UInt8}{x y:Bool}(h1:Da w b p t x w1)(h2:Da w1 b p t' y w2):Da w b p t' y w2:=⟨h2.1,h1.2.trans h2.2⟩
theorem Da.pre{w w1 w2:World}{b:Nat}{p:Value}{t:List UInt8}{x:Bool}(hb:Below w w w1)(h:Da w1 b p t x w2):Da w b p t x w2:=⟨h.1,(Cv hb _).trans h.2⟩
theorem Da.post{w w1 w2:World}{b:Nat}{p:Value}{t:List UInt8}{x:Bool}(h:Da w b p t x w1)(hb:Below w1 w1 w2):Da w b p t x w2:=⟨h.1.grow hb,h.2.trans (Cv hb _)⟩
theorem Da.set{w W:World}{b B:Nat}{p:Value}{t:List UInt8}{x:Bool}(h:Da w b p t x W)(hB:w.heap.size<=B)(hne:B≠b)(cs:List Value):Da w b p t x (W.setCells B 0 cs):=by
 obtain⟨⟨h0,h1,h2,h3,h4⟩,hg⟩:=h;have hk:(W.setCells B 0 cs).heap[b]?=W.heap[b]?:=(D8 B cs 0 W).block b h0 (by simpa using hne.symm);have hc:∀o,(W.setCells B 0 cs).cell? ⟨b,o,none⟩=W.cell? ⟨b,o,none⟩:=fun o=>World.cell?_of_block (a:=⟨b,o,none⟩) hk;obtain⟨c1,t1,e1⟩:=h1;exact⟨⟨by rw[Cm];exact h0,⟨c1,t1,hk.trans e1⟩,(hc 0).trans h2,(hc 1).trans h3,(hc 2).trans h4⟩,Yb (o:=0) hg hB cs 0⟩
theorem Da.env{w0 w w1:World}{b:Nat}{p:Value}{t:List UInt8}{x:Bool}(h:Da w b p t x w1)(h0:Below w0 w0 w)(hb:w0.heap.size<=b):Below w0 w0 w1:=
 h0.grown h.2 h0.size fun k hk=>by injection hk with hk;omega
theorem D1.set{P:Nat->Prop}{w:World}{v:Value}{ks:List Vl}(h:D1 P w v ks){B:Nat}(hB:¬P B)(cs:List Value):D1 P (w.setCells B 0 cs) v ks:=
 h.grown (D8 B cs 0 w) fun b hb e=>by injection e with e;subst e;exact hB hb
def Kh(w:World)(b:Nat)(p:Value)(t:List UInt8)(N:Nat)(r:Option (Vl × List UInt8))(e:Ending)(w':World):Prop:=
 ∃(v:Vl) (sl:Value) (t':List UInt8),e=.returned (Mg v sl)/\D1 (fun b=>w.heap.size<=b) w' sl v.kids/\Da w b p t' r.isNone w'/\(∀x,r=some x->v=x.1/\t'=x.2)/\Bd v/\t'.length<=t.length/\(Au v).length+t'.length<=t.length+8*N
def H5:Vl:=.mk 0 [] 0 []
theorem Ey{w:UInt8}{tx:List UInt8}{tg:Nat}(h1:tg<=1000000000)(h3:tx.length<=1000000):Bd (.mk w tx tg []):=.mk h1 cJ h3 aI
theorem Sx.range{w:World}{A:Option Addr}{fs:List Fd}(hr:B8 w A (fs.length*6) (fs.flatMap Qx)){i:Nat}(hi:i<fs.length):∃b off,A=some ⟨b,off,none⟩/\b<w.heap.size/\w.rangeAt b (off+i*6) (Qx fs[i]):=by
 obtain⟨b,off,e,hlt,hc⟩:=hr.elem Qcn (by decide) hi
 exact⟨b,off,e,hlt,fun j v hv=>by rw[Nat.add_assoc];exact hc j v hv⟩
theorem Kj(c:UInt8)(s:List UInt8):(Dc c s).1.length<=s.length/\(Dc c s).2.1.length<=s.length:=by
 rcases E3 c s with⟨_,h⟩|⟨p,t,rfl,_,h⟩
 ·rw[h];simp
 rw[h];simp;omega
def Mh(st:UInt8)(ps:List (List UInt8))(vl:List UInt8)(td:Bool):Option Fd:=
 if st=69 then
  match Jv ps with
  |some (n,b)=>if td=true then none else some ⟨n,b,Kd.nil,vl⟩
  |none=>none
 else
  match Km ps with
  |some (n,b,c)=>(match Co c with
   |some k=>if td=true/\¬(st=82/\k.signs=[]/\Bw k.base vl=true)then none else some ⟨n,b,k,vl⟩
   |none=>none)
  |none=>none
theorem V7(st:UInt8)(s:List UInt8):Gq st s=Mh st (Ai 58 (Dc 61 s).1) (Dc 61 s).2.1 (Dc 61 s).2.2:=rfl
theorem Tt{st:UInt8}{ps:List (List UInt8)}{vl:List UInt8}{td:Bool}(h:ps.length≠if st=69 then 2 else 3):Mh st ps vl td=none:=by
 unfold Mh;by_cases e:st=69
 ·rw[if_pos e]at h ⊢;match ps,h with
  |[],_=>rfl
  |[_],_=>rfl
  |[_,_],h=>exact absurd rfl h
  |_::_::_::_,_=>rfl
 rw[if_neg e]at h ⊢;match ps,h with
 |[],_=>rfl
 |[_],_=>rfl
 |[_,_],_=>rfl
 |[_,_,_],h=>exact absurd rfl h
 |_::_::_::_::_,_=>rfl
def Na(a b:List UInt8)(n:Nat):Prop:=Cn a=some n/\1<=n/\n<=200/\Bb b=true
theorem Sh{st:UInt8}{a b:List UInt8}{r:List (List UInt8)}{vl:List UInt8}{td:Bool}(h:∀n,¬Na a b n):Mh st (a::b::r) vl td=none:=by
 have h2:∀c,Jv (a::b::c)=none:=by
  intro c;match c with
  |[]=>
   cases hd:Cn a with
   |none=>simp only[Jv,hd]
   |some n=>simp only[Jv,hd];exact if_neg fun(e:1<=n/\n<=200/\Bb b=true)=>h n ⟨hd,e.1,e.2.1,e.2.2⟩
  |_::_=>rfl
 have h3:∀c,Km (a::b::c)=none:=by
  intro c;match c with
  |[]=>rfl
  |[x]=>
   cases hd:Cn a with
   |none=>simp only[Km,hd]
   |some n=>simp only[Km,hd];exact if_neg fun(e:1<=n/\n<=200/\Bb b=true)=>h n ⟨hd,e.1,e.2.1,e.2.2⟩
  |_::_::_=>rfl
 unfold Mh;rw[h2,h3];split<;>rfl
theorem Qex{a b:List UInt8}{vl:List UInt8}{td:Bool}{n:Nat}(h:Na a b n):Mh 69 [a,b] vl td=if td=true then none else some ⟨n,b,Kd.nil,vl⟩:=by
 obtain⟨h1,h2,h3,h4⟩:=h;unfold Mh Jv;simp[h1,h2,h3,h4]
theorem Qfk{st:UInt8}{a b c:List UInt8}{vl:List UInt8}{td:Bool}{n:Nat}(hst:st≠69)(h:Na a b n):Mh st [a,b,c] vl td=(match Co c with
   |some k=>if td=true/\¬(st=82/\k.signs=[]/\Bw k.base vl=true)then none else some ⟨n,b,k,vl⟩
   |none=>none):=by
 obtain⟨h1,h2,h3,h4⟩:=h;unfold Mh Km;simp[h1,h2,h3,h4,hst]
theorem Qbz{k:Kd}(h:Xr k):Qh7 k.base:=by
 rcases h with⟨h,_⟩|⟨h|h|h,_⟩
 ·exact .inr (.inr (.inr h))
 ·exact .inl h
 ·exact .inr (.inl h)
 exact .inr (.inr (.inl h))
theorem Qiq{ps:List (List UInt8)}(h:ps.length=2):∃a b,ps=[a,b]:=by
 match ps,h with
 |[a,b],_=>exact⟨a,b,rfl⟩
theorem Qik{ps:List (List UInt8)}(h:ps.length=3):∃a b c,ps=[a,b,c]:=by
 match ps,h with
 |[a,b,c],_=>exact⟨a,b,c,rfl⟩
theorem Se{w:World}{b o n:Nat}(h:w.there b o n)(k:Nat):(w.drewN k).there b o n:=by
 induction k generalizing w with
 |zero=>exact h
 |succ k ih=>exact ih bg
theorem Qe2(st:UInt8)(hst:st=69)(s:List UInt8)(w:World)(hs:s.length<=4000000):
  Calls prog 121 #[s,.int .u8 (st.toNat:Int)] w (D4 (Gq st s) w):=by
 have HF:=Aa (V7 st s);have Hcut:=Aa (fun W=>Qn s 61 W aE);have hcl:=(Kj 61 s).1;have hvl:=(Kj 61 s).2;generalize Dc 61 s=r at HF Hcut hcl hvl;obtain⟨hd,vl,td⟩:=r;simp only at hcl hvl HF;have Hsp:=Aa (fun W=>Re hd 58 W aE);have hne:=Ee 58 hd;have Hpl:=Aa (Al 58 hd);generalize Ai 58 hd=ps at HF Hsp hne Hpl;have e69:((st.toNat:Int) == 69)=true:=Bs hst;have n69:((st.toNat:Int) != 69)=false:=Ks hst;have Hst0:=Aa hst;clear hst;go_enter func121,ntmps121;go_wp2_with fail;refine(Hcut.o _).mono ?_;rintro e w1 ⟨rfl,k1,rfl⟩;unfold Y6;go_wp2_with fail;refine(Hsp.o _).mono ?_;rintro e w2 ⟨v,rfl,ho,hb⟩;obtain⟨g,c,rfl,hg1,hg2,hcells⟩:=Mw ho hne;have hzz:w.heap.size<w2.heap.size:=by have:=hb.size;simp at this;omega
 have HT:=@Aa (w2.there w 0 6) (Bt (Se (D2 w [.int .i64 0,a8,a8,a8,a8,a8] 85) k1) aI hb);have Hb:=@Aa (Below w w w2) ((below_drewN ((Ay w.heap.size w).alloc (As _) _) k1).trans (hb.mono aI));have Hcells:=Aa hcells;clear hb ho hcells hne;by_cases hlen:ps.length=2
 ·obtain⟨a,b,rfl⟩:=Qiq hlen;have c0:=Hcells.o 0 aI;have c1:=Hcells.o 1 aI;simp at c0 c1;have la:a.length<=4000000:=by have:=Hpl.o a aI;omega
  have lb:b.length<=4000000:=by have:=Hpl.o b aI;omega
  clear Hpl Hcells hlen;have hpn:=fun W=>(show Calls prog 130 #[a,.int .i64 200] W fun e w'=>e=.returned (pnV a 200)/\W=w' from Gk a 200 W aE aH)
  have Hhead:=@Aa (∀n,Na a b n↔Cn a=some n/\1<=n/\n<=200/\Bb b=true) (fun n=>Iff.rfl);have Hno:=Aa (fun(h:∀n,¬Na a b n)=>HF.o.trans (Sh h));generalize hda:Cn a=od at *;have Hda:=Aa hda;clear hda;cases od with
  |none=>
   have Hpn:=Aa (fun W=>(P2 (m:=200) Hda.o) ▸ hpn W);clear hpn;go_wp2_with fail;refine(Hpn.o _).mono ?_;rintro e w3 ⟨rfl,rfl⟩;go_wp2_with ((with_reducible refine Ac (op:=⟨none,.store 85 _ _,_,_,_,none⟩) rfl 85 _ _ rfl w 0 [.int .i64 0,a8,a8,a8,a8,a8] ?_ ?_ ?_ ?_ ?_ ?_);rfl;rfl;(first|exact ao HT.o _|exact HT.o);kernel_rfl;(simp[Value.oneCell']);intro w9 HS9)
   have HZ:=@Aa (w9.rangeAt w 0 [.int .i64 0,a8,a8,a8,a8,a8]) bc;refine aC (v:=.tuple #[.agg ([.int .i64 0,a8,a8,a8,a8,a8]:List Value).toArray,.bool false]) ?_ rfl ?_
   ·exact fO
   exact iH
  |some n=>
   have Hpn:=Aa (fun W=>(S8 (m:=200) Hda.o) ▸ hpn W);clear hpn;have hn9:n<=999999:=(Cb.1 Hda.o).1;rcases aD 200 n with h200|h200
   ·exact fS
   have Hdec:=Aa (show decide (n<=200)=true by simp;omega);rw[Hdec.o]at Hpn;rcases Nat.eq_zero_or_pos n with h0|h0
   ·exact fT
   have hlt1:decide ((n:Int)<1)=false:=dK;have Hname:=Aa (fun W=>J8 b W aE);generalize hnb:Bb b=nb at *;have Hnb:=Aa hnb;clear hnb;go_wp2_with fail;refine(Hpn.o _).mono ?_;rintro e w3 ⟨rfl,rfl⟩;go_wp2_with fail;refine(Hname.o _).mono ?_;rintro e w4 ⟨rfl,hb4⟩;have hz4:w2.heap.size<w4.heap.size:=fi;have HT4:=@Aa (w4.there w 0 6) (Bt (ao HT.o _) aM hb4);have HR4:=@Aa (w4.rangeAt w2 0 [(n:Int),b,a8,a8,a8,vl]) (Av (Ch w2 _ _) aI hb4);have HK4:=@Aa (w4.there w2 0 6) (Bt (D2 w2 [(n:Int),b,a8,a8,a8,vl] _) aI hb4);have Hb4:=@Aa (Below w w w4) ((Hb.o.alloc Hb.o.size _).trans (hb4.mono aM));clear hb4;cases nb with
   |false=>
    go_wp2_with ((with_reducible refine Ac (op:=⟨none,.store 85 _ _,_,_,_,none⟩) rfl 85 _ _ rfl w 0 [.int .i64 0,a8,a8,a8,a8,a8] ?_ ?_ ?_ ?_ ?_ ?_);rfl;rfl;(first|exact ao HT4.o _|exact HT4.o);kernel_rfl;(simp[Value.oneCell']);intro w9 HS9)
    have HZ:=@Aa (w9.rangeAt w 0 [.int .i64 0,a8,a8,a8,a8,a8]) bN;refine aC (v:=.tuple #[.agg ([.int .i64 0,a8,a8,a8,a8,a8]:List Value).toArray,.bool false]) ?_ rfl ?_
    ·exact fO
    exact iI
   |true=>
    have Hok:=@Aa (Na a b n) ((Hhead.o n).2 ⟨rfl,h0,h200,rfl⟩);have HF2:=Aa (HF.o.trans (show Mh st [a,b] vl td=if td=true then none else some ⟨n,b,Kd.nil,vl⟩from by rw[Hst0.o];exact Qex Hok.o));clear Hno Hhead HF;have n82:((st.toNat:Int) != 82)=true:=Nt (c:=st) (d:=82) (by rw[Hst0.o];decide);cases td with
    |true=>
     go_wp2_with ((with_reducible refine Ac (op:=⟨none,.store 85 _ _,_,_,_,none⟩) rfl 85 _ _ rfl w 0 [.int .i64 0,a8,a8,a8,a8,a8] ?_ ?_ ?_ ?_ ?_ ?_);rfl;rfl;(first|exact ao HT4.o _|exact HT4.o);kernel_rfl;(simp[Value.oneCell']);intro w9 HS9)
     have HZ:=@Aa (w9.rangeAt w 0 [.int .i64 0,a8,a8,a8,a8,a8]) bN;refine aC (v:=.tuple #[.agg ([.int .i64 0,a8,a8,a8,a8,a8]:List Value).toArray,.bool false]) ?_ rfl ?_
     ·exact fO
     exact D4.no (HF2.o.trans aI) rfl bp
    |false=>
     go_wp2_with (first|((with_reducible refine Ac (op:=⟨none,.store 85 _ _,_,_,_,none⟩) rfl 85 _ _ rfl w 0 [(n:Int),b,a8,a8,a8,vl] ?_ ?_ ?_ ?_ ?_ ?_);rfl;rfl;(first|exact ao HT4.o _|exact HT4.o);kernel_rfl;(simp[Value.oneCell']);intro w9 HS9)|((with_reducible refine wpList_load_mid (op:=⟨_,.load 85 _,_,_,_,none⟩) rfl 85 _ rfl w2 0 ?_ [(n:Int),b,a8,a8,a8,vl] _ HR4.o underlying85 ?_ ?_ ?_);rfl;rfl;kernel_rfl))
     have HZ:=@Aa (w9.rangeAt w 0 [(n:Int),b,a8,a8,a8,vl]) bN;refine aC (v:=.tuple #[.agg ([(n:Int),b,a8,a8,a8,vl]:List Value).toArray,.bool true]) ?_ rfl ?_
     ·exact Bc results121 _ _ w.heap.size [(n:Int),b,a8,a8,a8,vl] _ _ rfl rfl HZ.o underlying85 rfl aJ
     exact D4.yes (HF2.o.trans (if_neg (fun h=>by cases h))) rfl bp
 have Hno:=Aa (HF.o.trans (Tt (vl:=vl) (td:=td) (st:=st) (ps:=ps) (by rw[if_pos Hst0.o];exact hlen)));have hl1:¬(ps.length:Int)=2:=aE;have hl2:((ps.length:Int) != 2)=true:=by rw[bne_iff_ne];exact hl1
 clear HF Hpl Hcells;go_wp2_with ((with_reducible refine Ac (op:=⟨none,.store 85 _ _,_,_,_,none⟩) rfl 85 _ _ rfl w 0 [.int .i64 0,a8,a8,a8,a8,a8] ?_ ?_ ?_ ?_ ?_ ?_);rfl;rfl;(first|exact ao HT.o _|exact HT.o);kernel_rfl;(simp[Value.oneCell']);intro w9 HS9)
 have HZ:=@Aa (w9.rangeAt w 0 [.int .i64 0,a8,a8,a8,a8,a8]) bc;refine aC (v:=.tuple #[.agg ([.int .i64 0,a8,a8,a8,a8,a8]:List Value).toArray,.bool false]) ?_ rfl ?_
 ·exact fO
 exact D4.no Hno.o rfl aS
theorem Qfs(st:UInt8)(hst:st≠69)(s:List UInt8)(w:World)(hs:s.length<=4000000):
  Calls prog 121 #[s,.int .u8 (st.toNat:Int)] w (D4 (Gq st s) w):=by
 have HF:=Aa (V7 st s);have Hcut:=Aa (fun W=>Qn s 61 W aE);have hcl:=(Kj 61 s).1;have hvl:=(Kj 61 s).2;generalize Dc 61 s=r at HF Hcut hcl hvl;obtain⟨hd,vl,td⟩:=r;simp only at hcl hvl HF;have Hsp:=Aa (fun W=>Re hd 58 W aE);have hne:=Ee 58 hd;have Hpl:=Aa (Al 58 hd);generalize Ai 58 hd=ps at HF Hsp hne Hpl;have e69:((st.toNat:Int) == 69)=false:=Am hst;have n69:((st.toNat:Int) != 69)=true:=Nt hst;have Hst0:=Aa hst;clear hst;go_enter func121,ntmps121;go_wp2_with fail;refine(Hcut.o _).mono ?_;rintro e w1 ⟨rfl,k1,rfl⟩;unfold Y6;go_wp2_with fail;refine(Hsp.o _).mono ?_;rintro e w2 ⟨v,rfl,ho,hb⟩;obtain⟨g,c,rfl,hg1,hg2,hcells⟩:=Mw ho hne;have hzz:w.heap.size<w2.heap.size:=by have:=hb.size;simp at this;omega
 have HT:=@Aa (w2.there w 0 6) (Bt (Se (D2 w [.int .i64 0,a8,a8,a8,a8,a8] 85) k1) aI hb);have Hb:=@Aa (Below w w w2) ((below_drewN ((Ay w.heap.size w).alloc (As _) _) k1).trans (hb.mono aI));have Hcells:=Aa hcells;clear hb ho hcells hne;by_cases hlen:ps.length=3
 ·obtain⟨a,b,d,rfl⟩:=Qik hlen;have c0:=Hcells.o 0 aI;have c1:=Hcells.o 1 aI;have c2:=Hcells.o 2 aI;simp at c0 c1 c2;have la:a.length<=4000000:=by have:=Hpl.o a aI;omega
  have lb:b.length<=4000000:=by have:=Hpl.o b aI;omega
  have ld:d.length<=4000000:=by have:=Hpl.o d aI;omega
  clear Hpl Hcells hlen;have hpn:=fun W=>(show Calls prog 130 #[a,.int .i64 200] W fun e w'=>e=.returned (pnV a 200)/\W=w' from Gk a 200 W aE aH)
  have Hhead:=@Aa (∀n,Na a b n↔Cn a=some n/\1<=n/\n<=200/\Bb b=true) (fun n=>Iff.rfl);have Hno:=Aa (fun(h:∀n,¬Na a b n)=>HF.o.trans (Sh h));generalize hda:Cn a=od at *;have Hda:=Aa hda;clear hda;cases od with
  |none=>
   have Hpn:=Aa (fun W=>(P2 (m:=200) Hda.o) ▸ hpn W);clear hpn;go_wp2_with fail;refine(Hpn.o _).mono ?_;rintro e w3 ⟨rfl,rfl⟩;go_wp2_with ((with_reducible refine Ac (op:=⟨none,.store 85 _ _,_,_,_,none⟩) rfl 85 _ _ rfl w 0 [.int .i64 0,a8,a8,a8,a8,a8] ?_ ?_ ?_ ?_ ?_ ?_);rfl;rfl;(first|exact ao HT.o _|exact HT.o);kernel_rfl;(simp[Value.oneCell']);intro w9 HS9)
   have HZ:=@Aa (w9.rangeAt w 0 [.int .i64 0,a8,a8,a8,a8,a8]) bc;refine aC (v:=.tuple #[.agg ([.int .i64 0,a8,a8,a8,a8,a8]:List Value).toArray,.bool false]) ?_ rfl ?_
   ·exact fO
   exact iH
  |some n=>
   have Hpn:=Aa (fun W=>(S8 (m:=200) Hda.o) ▸ hpn W);clear hpn;have hn9:n<=999999:=(Cb.1 Hda.o).1;rcases aD 200 n with h200|h200
   ·exact fS
   have Hdec:=Aa (show decide (n<=200)=true by simp;omega);rw[Hdec.o]at Hpn;rcases Nat.eq_zero_or_pos n with h0|h0
   ·exact fT
   have hlt1:decide ((n:Int)<1)=false:=dK;have Hname:=Aa (fun W=>J8 b W aE);generalize hnb:Bb b=nb at *;have Hnb:=Aa hnb;clear hnb;go_wp2_with fail;refine(Hpn.o _).mono ?_;rintro e w3 ⟨rfl,rfl⟩;go_wp2_with fail;refine(Hname.o _).mono ?_;rintro e w4 ⟨rfl,hb4⟩;have hz4:w2.heap.size<w4.heap.size:=fi;have HT4:=@Aa (w4.there w 0 6) (Bt (ao HT.o _) aM hb4);have HR4:=@Aa (w4.rangeAt w2 0 [(n:Int),b,a8,a8,a8,vl]) (Av (Ch w2 _ _) aI hb4);have HK4:=@Aa (w4.there w2 0 6) (Bt (D2 w2 [(n:Int),b,a8,a8,a8,vl] _) aI hb4);have Hb4:=@Aa (Below w w w4) ((Hb.o.alloc Hb.o.size _).trans (hb4.mono aM));have c2x:w4.cell? (g,2)=d:=(hb4.cell (p:=⟨g,2,none⟩) aM).trans (by rw[World.cell?_alloc_old _ _ _ aM];exact c2);clear hb4;cases nb with
   |false=>
    go_wp2_with ((with_reducible refine Ac (op:=⟨none,.store 85 _ _,_,_,_,none⟩) rfl 85 _ _ rfl w 0 [.int .i64 0,a8,a8,a8,a8,a8] ?_ ?_ ?_ ?_ ?_ ?_);rfl;rfl;(first|exact ao HT4.o _|exact HT4.o);kernel_rfl;(simp[Value.oneCell']);intro w9 HS9)
    have HZ:=@Aa (w9.rangeAt w 0 [.int .i64 0,a8,a8,a8,a8,a8]) bN;refine aC (v:=.tuple #[.agg ([.int .i64 0,a8,a8,a8,a8,a8]:List Value).toArray,.bool false]) ?_ rfl ?_
    ·exact fO
    exact iI
   |true=>
    have Hok:=@Aa (Na a b n) ((Hhead.o n).2 ⟨rfl,h0,h200,rfl⟩);have HF2:=Aa (HF.o.trans (Qfk (c:=d) (vl:=vl) (td:=td) Hst0.o Hok.o));clear Hno Hhead HF;have Hkd:=Aa (fun W=>Qp d W ld);have Hkok:=Aa (fun k (h:Co d=some k)=>(Er.1 h).1);generalize Co d=ok at HF2 Hkd Hkok;go_wp2_with fail;refine(Hkd.o _).mono ?_;rintro e w5 ⟨hcase,hb5⟩;have HT5:=@Aa (w5.there w 0 6) (Bt HT4.o aE hb5);have HR5:=@Aa (w5.rangeAt w2 0 _) (Av HR4.o hz4 hb5);have HK5:=@Aa (w5.there w2 0 6) (Bt HK4.o hz4 hb5);have Hb5:=Aa (Hb4.o.trans (hb5.mono Hb4.o.size));have hz5:w2.heap.size<w5.heap.size:=ab hz4 hb5.size;clear hb5;cases ok with
    |none=>
     obtain⟨a1,a2,a3,rfl⟩:=hcase;go_wp2_with (first|((with_reducible refine Ac (op:=⟨none,.store 39 _ _,_,_,_,none⟩) rfl 39 _ _ rfl w2 2 [.string a1,.string a2,.string a3] ?_ ?_ ?_ ?_ ?_ ?_);rfl;rfl;(exact Mr HK5.o 2 3 aH aH);kernel_rfl;(simp[Value.oneCell']);intro w6 HS6;have HT6:=@Aa (w6.there w 0 6) (HS6.o ▸ ah HT5.o _ _ _);have HR6:=@Aa (w6.rangeAt w2 0 [(n:Int),b,.string a1,.string a2,.string a3,vl]) (HS6.o ▸ Db [(n:Int),b] [a8,a8,a8] [vl] [.string a1,.string a2,.string a3] HR5.o rfl);have Hb6:=@Aa (Below w w w6) (HS6.o ▸ Aw _ (Nat.le_of_lt hzz) _ _ _ Hb5.o);have hz6:w2.heap.size<w6.heap.size:=cZ;have z2:w6.cell? (w2,2)=some (.string a1):=cH;have z3:w6.cell? (w2,3)=some (.string a2):=cI;clear HT5 HR5 HK5 HS6)|((with_reducible refine Ac (op:=⟨none,.store 85 _ _,_,_,_,none⟩) rfl 85 _ _ rfl w 0 [.int .i64 0,a8,a8,a8,a8,a8] ?_ ?_ ?_ ?_ ?_ ?_);rfl;rfl;(first|exact ao HT6.o _|exact HT6.o);kernel_rfl;(simp[Value.oneCell']);intro w9 HS9))
     have HZ:=@Aa (w9.rangeAt w 0 [.int .i64 0,a8,a8,a8,a8,a8]) bO;refine aC (v:=.tuple #[.agg ([.int .i64 0,a8,a8,a8,a8,a8]:List Value).toArray,.bool false]) ?_ rfl ?_
     ·exact fO
     exact D4.no HF2.o rfl bq
    |some k=>
     have hcase':e=.returned (.tuple #[.agg #[k.signs,k.base,k.name],.bool true]):=hcase;subst hcase';clear hcase;have Hkk:=Aa (Hkok.o k rfl);have HF3:=@Aa (Gq st s=if td=true/\¬(st=82/\k.signs=[]/\Bw k.base vl=true)then none else some ⟨n,b,k,vl⟩) HF2.o;clear HF2 Hkok;cases td with
     |false=>
      go_wp2_with (first|((with_reducible refine Ac (op:=⟨none,.store 39 _ _,_,_,_,none⟩) rfl 39 _ _ rfl w2 2 [k.signs,k.base,k.name] ?_ ?_ ?_ ?_ ?_ ?_);rfl;rfl;(exact Mr HK5.o 2 3 aH aH);kernel_rfl;(simp[Value.oneCell']);intro w6 HS6;have HT6:=@Aa (w6.there w 0 6) (HS6.o ▸ ah HT5.o _ _ _);have HR6:=@Aa (w6.rangeAt w2 0 [(n:Int),b,k.signs,k.base,k.name,vl]) (HS6.o ▸ Db [(n:Int),b] [a8,a8,a8] [vl] [k.signs,k.base,k.name] HR5.o rfl);have Hb6:=@Aa (Below w w w6) (HS6.o ▸ Aw _ (Nat.le_of_lt hzz) _ _ _ Hb5.o);have hz6:w2.heap.size<w6.heap.size:=cZ;have z2:w6.cell? (w2,2)=k.signs:=cH;have z3:w6.cell? (w2,3)=k.base:=cI;clear HT5 HR5 HK5 HS6)|((with_reducible refine Ac (op:=⟨none,.store 85 _ _,_,_,_,none⟩) rfl 85 _ _ rfl w 0 [(n:Int),b,k.signs,k.base,k.name,vl] ?_ ?_ ?_ ?_ ?_ ?_);rfl;rfl;(first|exact ao HT6.o _|exact HT6.o);kernel_rfl;(simp[Value.oneCell']);intro w9 HS9)|((with_reducible refine wpList_load_mid (op:=⟨_,.load 85 _,_,_,_,none⟩) rfl 85 _ rfl w2 0 ?_ [(n:Int),b,k.signs,k.base,k.name,vl] _ HR6.o underlying85 ?_ ?_ ?_);rfl;rfl;kernel_rfl))
      have HZ:=@Aa (w9.rangeAt w 0 [(n:Int),b,k.signs,k.base,k.name,vl]) bO;refine aC (v:=.tuple #[.agg ([(n:Int),b,k.signs,k.base,k.name,vl]:List Value).toArray,.bool true]) ?_ rfl ?_
      ·exact gF
      exact D4.yes (HF3.o.trans (if_neg aI)) rfl bq
     |true=>
      rcases Decidable.em (st=82)with h82|h82
      ·have n82:((st.toNat:Int) != 82)=false:=Ks (c:=st) (d:=82) h82;rcases Decidable.em (k.signs=[])with hsg|hsg
       ·have hsg1:(k.signs != [])=false:=cB;have hsg2:k.signs.isEmpty=true:=cB;have hsg3:(!k.signs.isEmpty)=false:=cB;have hbl:=Qbz Hkk.o.2.1;have Hst:=Aa (fun W=>Yx k.base vl W hbl aE)
        have Hst2:=Aa (show Gq st s=if Bw k.base vl=true then some ⟨n,b,k,vl⟩else none from by
         rw[HF3.o];by_cases hh:Bw k.base vl=true
         ·rw[if_neg (by simp[h82,hsg,hh]),if_pos hh]
         rw[if_pos (by simp[hh]),if_neg hh])
        generalize Bw k.base vl=sb at Hst Hst2;clear hsg h82 hbl;go_wp2_with ((with_reducible refine Ac (op:=⟨none,.store 39 _ _,_,_,_,none⟩) rfl 39 _ _ rfl w2 2 [k.signs,k.base,k.name] ?_ ?_ ?_ ?_ ?_ ?_);rfl;rfl;(exact Mr HK5.o 2 3 aH aH);kernel_rfl;(simp[Value.oneCell']);intro w6 HS6;have HT6:=@Aa (w6.there w 0 6) (HS6.o ▸ ah HT5.o _ _ _);have HR6:=@Aa (w6.rangeAt w2 0 [(n:Int),b,k.signs,k.base,k.name,vl]) (HS6.o ▸ Db [(n:Int),b] [a8,a8,a8] [vl] [k.signs,k.base,k.name] HR5.o rfl);have Hb6:=@Aa (Below w w w6) (HS6.o ▸ Aw _ (Nat.le_of_lt hzz) _ _ _ Hb5.o);have hz6:w2.heap.size<w6.heap.size:=cZ;have z2:w6.cell? (w2,2)=k.signs:=cH;have z3:w6.cell? (w2,3)=k.base:=cI;clear HT5 HR5 HK5 HS6)
        refine(Hst.o _).mono ?_;rintro e w7 ⟨rfl,hb7⟩;have HT7:=@Aa (w7.there w 0 6) (Bt HT6.o aE hb7);have HR7:=@Aa (w7.rangeAt w2 0 _) (Av HR6.o hz6 hb7);have Hb7:=Aa (Hb6.o.trans (hb7.mono Hb6.o.size));clear hb7 z2 z3;cases sb with
        |true=>
         go_wp2_with (first|((with_reducible refine Ac (op:=⟨none,.store 85 _ _,_,_,_,none⟩) rfl 85 _ _ rfl w 0 [(n:Int),b,k.signs,k.base,k.name,vl] ?_ ?_ ?_ ?_ ?_ ?_);rfl;rfl;(first|exact ao HT7.o _|exact HT7.o);kernel_rfl;(simp[Value.oneCell']);intro w9 HS9)|((with_reducible refine wpList_load_mid (op:=⟨_,.load 85 _,_,_,_,none⟩) rfl 85 _ rfl w2 0 ?_ [(n:Int),b,k.signs,k.base,k.name,vl] _ HR7.o underlying85 ?_ ?_ ?_);rfl;rfl;kernel_rfl))
         have HZ:=@Aa (w9.rangeAt w 0 [(n:Int),b,k.signs,k.base,k.name,vl]) dN;refine aC (v:=.tuple #[.agg ([(n:Int),b,k.signs,k.base,k.name,vl]:List Value).toArray,.bool true]) ?_ rfl ?_
         ·exact gF
         exact D4.yes (Hst2.o.trans (if_pos aI)) rfl cV
        |false=>
         go_wp2_with ((with_reducible refine Ac (op:=⟨none,.store 85 _ _,_,_,_,none⟩) rfl 85 _ _ rfl w 0 [.int .i64 0,a8,a8,a8,a8,a8] ?_ ?_ ?_ ?_ ?_ ?_);rfl;rfl;(first|exact ao HT7.o _|exact HT7.o);kernel_rfl;(simp[Value.oneCell']);intro w9 HS9)
         have HZ:=@Aa (w9.rangeAt w 0 [.int .i64 0,a8,a8,a8,a8,a8]) dN;refine aC (v:=.tuple #[.agg ([.int .i64 0,a8,a8,a8,a8,a8]:List Value).toArray,.bool false]) ?_ rfl ?_
         ·exact fO
         exact D4.no (Hst2.o.trans (if_neg aH)) rfl cV
       have hsg1:(k.signs != [])=true:=cB;have hsg2:k.signs.isEmpty=false:=cB;have hsg3:(!k.signs.isEmpty)=true:=cB;have Hw:=Aa (HF3.o.trans (if_pos ⟨rfl,fun h=>hsg h.2.1⟩));clear hsg h82;go_wp2_with (first|((with_reducible refine Ac (op:=⟨none,.store 39 _ _,_,_,_,none⟩) rfl 39 _ _ rfl w2 2 [k.signs,k.base,k.name] ?_ ?_ ?_ ?_ ?_ ?_);rfl;rfl;(exact Mr HK5.o 2 3 aH aH);kernel_rfl;(simp[Value.oneCell']);intro w6 HS6;have HT6:=@Aa (w6.there w 0 6) (HS6.o ▸ ah HT5.o _ _ _);have HR6:=@Aa (w6.rangeAt w2 0 [(n:Int),b,k.signs,k.base,k.name,vl]) (HS6.o ▸ Db [(n:Int),b] [a8,a8,a8] [vl] [k.signs,k.base,k.name] HR5.o rfl);have Hb6:=@Aa (Below w w w6) (HS6.o ▸ Aw _ (Nat.le_of_lt hzz) _ _ _ Hb5.o);have hz6:w2.heap.size<w6.heap.size:=cZ;have z2:w6.cell? (w2,2)=k.signs:=cH;have z3:w6.cell? (w2,3)=k.base:=cI;clear HT5 HR5 HK5 HS6)|((with_reducible refine Ac (op:=⟨none,.store 85 _ _,_,_,_,none⟩) rfl 85 _ _ rfl w 0 [.int .i64 0,a8,a8,a8,a8,a8] ?_ ?_ ?_ ?_ ?_ ?_);rfl;rfl;(first|exact ao HT6.o _|exact HT6.o);kernel_rfl;(simp[Value.oneCell']);intro w9 HS9))
       have HZ:=@Aa (w9.rangeAt w 0 [.int .i64 0,a8,a8,a8,a8,a8]) bO;refine aC (v:=.tuple #[.agg ([.int .i64 0,a8,a8,a8,a8,a8]:List Value).toArray,.bool false]) ?_ rfl ?_
       ·exact fO
       exact D4.no Hw.o rfl bq
      have n82:((st.toNat:Int) != 82)=true:=Nt (c:=st) (d:=82) h82;have Hw:=Aa (HF3.o.trans (if_pos ⟨rfl,fun h=>h82 h.1⟩));clear h82;go_wp2_with (first|((with_reducible refine Ac (op:=⟨none,.store 39 _ _,_,_,_,none⟩) rfl 39 _ _ rfl w2 2 [k.signs,k.base,k.name] ?_ ?_ ?_ ?_ ?_ ?_);rfl;rfl;(exact Mr HK5.o 2 3 aH aH);kernel_rfl;(simp[Value.oneCell']);intro w6 HS6;have HT6:=@Aa (w6.there w 0 6) (HS6.o ▸ ah HT5.o _ _ _);have HR6:=@Aa (w6.rangeAt w2 0 [(n:Int),b,k.signs,k.base,k.name,vl]) (HS6.o ▸ Db [(n:Int),b] [a8,a8,a8] [vl] [k.signs,k.base,k.name] HR5.o rfl);have Hb6:=@Aa (Below w w w6) (HS6.o ▸ Aw _ (Nat.le_of_lt hzz) _ _ _ Hb5.o);have hz6:w2.heap.size<w6.heap.size:=cZ;have z2:w6.cell? (w2,2)=k.signs:=cH;have z3:w6.cell? (w2,3)=k.base:=cI;clear HT5 HR5 HK5 HS6)|((with_reducible refine Ac (op:=⟨none,.store 85 _ _,_,_,_,none⟩) rfl 85 _ _ rfl w 0 [.int .i64 0,a8,a8,a8,a8,a8] ?_ ?_ ?_ ?_ ?_ ?_);rfl;rfl;(first|exact ao HT6.o _|exact HT6.o);kernel_rfl;(simp[Value.oneCell']);intro w9 HS9))
      have HZ:=@Aa (w9.rangeAt w 0 [.int .i64 0,a8,a8,a8,a8,a8]) bO;refine aC (v:=.tuple #[.agg ([.int .i64 0,a8,a8,a8,a8,a8]:List Value).toArray,.bool false]) ?_ rfl ?_
      ·exact fO
      exact D4.no Hw.o rfl bq
 have Hno:=Aa (HF.o.trans (Tt (vl:=vl) (td:=td) (st:=st) (ps:=ps) (by rw[if_neg Hst0.o];exact hlen)));have hl1:¬(ps.length:Int)=3:=aE;have hl2:((ps.length:Int) != 3)=true:=by rw[bne_iff_ne];exact hl1
 clear HF Hpl Hcells;go_wp2_with ((with_reducible refine Ac (op:=⟨none,.store 85 _ _,_,_,_,none⟩) rfl 85 _ _ rfl w 0 [.int .i64 0,a8,a8,a8,a8,a8] ?_ ?_ ?_ ?_ ?_ ?_);rfl;rfl;(first|exact ao HT.o _|exact HT.o);kernel_rfl;(simp[Value.oneCell']);intro w9 HS9)
 have HZ:=@Aa (w9.rangeAt w 0 [.int .i64 0,a8,a8,a8,a8,a8]) bc;refine aC (v:=.tuple #[.agg ([.int .i64 0,a8,a8,a8,a8,a8]:List Value).toArray,.bool false]) ?_ rfl ?_
 ·exact fO
 exact D4.no Hno.o rfl aS
theorem Vo(st:UInt8)(hst:Dj st)(s:List UInt8)(w:World)(hs:s.length<=4000000):
  Calls prog 121 #[s,.int .u8 (st.toNat:Int)] w (D4 (Gq st s) w):=by
 by_cases h:st=69
 ·exact Qe2 st h s w hs
 exact Qfs st h s w hs
def Ex(o:Option Ty)(w:World)(e:Ending)(w':World):Prop:=
 (match o with
  |some t=>∃x:PT,x.ty=t/\e=.returned (.tuple #[x.ptr,.bool true])/\w.heap.size<=x.blk/\So w' x/\∀k,x.fv.ownBlock=some k->w.heap.size<=k
  |none=>∃p:Option Addr,e=.returned (.tuple #[.pointer p,.bool false]))/\Below w w w'
theorem Ex.no{w w':World}{e:Ending}{o:Option Ty}(ho:o=none){p:Option Addr}(he:e=.returned (.tuple #[.pointer p,.bool false]))(hb:Below w w w'):Ex o w e w':=by
 rw[ho];exact⟨⟨p,he⟩,hb⟩
theorem Ex.yes{w w':World}{e:Ending}{o:Option Ty}{t:Ty}(ho:o=some t){b:Nat}{fv:Value}(he:e=.returned (.tuple #[b,.bool true]))(hwb:w.heap.size<=b)(ht:So w' ⟨t,b,fv⟩)(hf:∀k,fv.ownBlock=some k->w.heap.size<=k)(hb:Below w w w'):Ex o w e w':=by
 rw[ho];exact⟨⟨⟨t,b,fv⟩,rfl,he,hwb,ht,hf⟩,hb⟩
theorem Tc(c:UInt8):decide (c∈([82,85,69]:List UInt8))=decide (Dj c):=by
 rw[decide_eq_decide];unfold Dj;simp
theorem Qdv(w:World):Calls prog 90 #[a8] w (Ex (Ej []) w):=by
 go_enter func90,ntmps90;go_wp2_with fail;go_ret2;exact Ex.no rfl rfl (Ay _ _)
theorem Qa7(c:UInt8)(r:List UInt8)(w:World)(hs:r.length<=3999999)(hc:¬Dj c):Calls prog 90 #[.string ⟨(c::r).toArray⟩] w (Ex (Ej (c::r)) w):=by
 have HF:=Aa (show Ej (c::r)=none by unfold Ej;simp only;rw[if_pos (.inl hc)])
 have Hc:=Aa (fun W=>(show Calls prog 119 #[.string ⟨#[82,85,69]⟩,.string ⟨#[c]⟩] W fun e w'=>e=.returned (.bool false)/\W=w' from by
  have:=Nc [82,85,69] c W;rw[Tc,az hc]at this;exact this))
 clear hc;go_enter func90,ntmps90;go_wp2_with fail;refine(Hc.o _).mono ?_;rintro e w' ⟨rfl,rfl⟩;go_wp2_with fail;go_ret2;exact Ex.no HF.o rfl (Ay _ _)
theorem Qbq(c:UInt8)(r:List UInt8)(w:World)(hs:r.length<=3999999)(hc:Dj c)(h:(Dc 61 r).2.2=false\/Bb (Dc 61 r).1=false\/(Dc 61 r).2.1=[]):Calls prog 90 #[.string ⟨(c::r).toArray⟩] w (Ex (Ej (c::r)) w):=by
 have HF:=Aa (show Ej (c::r)=if (Dc 61 r).2.2=false\/Bb (Dc 61 r).1=false then none else(if c=82 then some ⟨c,(Dc 61 r).1,[]⟩else none)by
  unfold Ej;simp only;by_cases h1:(Dc 61 r).2.2=false\/Bb (Dc 61 r).1=false
  ·rw[if_pos (.inr h1),if_pos h1]
  have h2:(Dc 61 r).2.1=[]:=by
   rcases h with h|h|h
   ·exact absurd (.inl h) h1
   ·exact absurd (.inr h) h1
   exact h
  rw[if_neg (fun h3=>h3.elim (fun h3=>h3 hc) h1),if_neg h1,if_pos h2])
 have Hc:=Aa (fun W=>(show Calls prog 119 #[.string ⟨#[82,85,69]⟩,.string ⟨#[c]⟩] W fun e w'=>e=.returned (.bool true)/\W=w' from by
  have:=Nc [82,85,69] c W;rw[Tc,aA hc]at this;exact this))
 have Hl:=Aa (fun(f:(Dc 61 r).2.2=true/\(Dc 61 r).2.1=[])=>show Xc ⟨c,(Dc 61 r).1,[]⟩=c::r from by
  rcases E3 61 r with⟨_,e⟩|⟨p,t,e1,_,e⟩
  ·rw[e]at f;cases f.1
  rw[e]at f ⊢;simp only at f;have:=f.2;subst this;rw[e1];rfl)
 have Hcut:=Aa (fun W=>Qn r 61 W aE);have hcl:=(Kj 61 r).1;generalize Dc 61 r=q at *;obtain⟨nm,rest,told⟩:=q;simp only at hcl HF h Hl;have Hh:=Aa h;have Hc82:=Aa hc;clear hc h;go_enter func90,ntmps90;go_wp2_with fail;refine(Hc.o _).mono ?_;rintro e w' ⟨rfl,rfl⟩;go_wp2_with fail;refine(Hcut.o _).mono ?_;rintro e w1 ⟨rfl,k1,rfl⟩;unfold Y6;cases told with
 |false=>
  go_wp2_with fail;go_ret2;exact Ex.no (HF.o.trans (if_pos aI)) rfl (below_drewN (Ay _ _) _)
 |true=>
  have Hname:=Aa (fun W=>J8 nm W aE);generalize hnb:Bb nm=nb at *;have Hnb:=Aa hnb;clear hnb;go_wp2_with fail;refine(Hname.o _).mono ?_;rintro e w2 ⟨rfl,hb2⟩;have Hb2:=@Aa (Below w w w2) ((below_drewN (Ay _ _) k1).trans (by simpa using hb2));clear hb2;cases nb with
  |false=>
   go_wp2_with fail;go_ret2;exact Ex.no (HF.o.trans (if_pos aI)) rfl Hb2.o
  |true=>
   obtain rfl:rest=[]:=by
    rcases Hh.o with h|h|h
    ·cases h
    ·cases h
    exact h
   have HF2:=Aa (HF.o.trans (if_neg aI));have Hl2:=Aa (Hl.o aI);have hz:=Hb2.o.size;rcases Decidable.em (c=82)with h82|h82
   ·have t1:((c.toNat:Int) == 82)=true:=Bs (d:=82) h82;have HF3:=Aa (HF2.o.trans (if_pos h82));clear h82;go_wp2_with fail;go_quiet (fail)
    go_wp2_with fail;go_ret2;refine Ex.yes HF3.o (b:=w2.heap.size) (fv:=.slice none 0 0) rfl Hb2.o.size ?_ (fun k hk=>by simp[Value.ownBlock]at hk) d9;refine⟨by simp,by first|exact Mu.new _ _ _|exact Mu.belowAt (Mu.new w2 _ _) aI (by first|exact below_drewN (Ay _ _) _|exact(Ay _ _).drew),by simp,by simp,by simp,?_,none,0,rfl,by simp,rfl,af _,fun h=>absurd h aI⟩;rw[Hl2.o];simp
   have t1:((c.toNat:Int) == 82)=false:=Am (d:=82) h82;have HF3:=Aa (HF2.o.trans (if_neg h82));clear h82;go_wp2_with fail;go_quiet (fail)
   go_wp2_with fail;go_ret2;exact Ex.no HF3.o rfl d9
def Qhl(c:UInt8)(nm:List UInt8):Option (List Fd)->Option Ty
 |some r=>some ⟨c,nm,r⟩
 |none=>none
theorem Yh{c:UInt8}{r nm rest:List UInt8}(hc:Dj c)(h:Dc 61 r=(nm,rest,true))(hn:Bb nm=true)(hr:rest≠[]):Ej (c::r)=Qhl c nm (E5 c (Ai 44 rest) []):=by
 unfold Ej;simp only[h];rw[if_neg (by simp[hc,hn]),if_neg hr];cases E5 c (Ai 44 rest) []<;>rfl
theorem X7{c:UInt8}{ps:List (List UInt8)}{acc:List Fd}{k:Nat}(hk:k<ps.length):E5 c (ps.drop k) acc=(match Gq c ps[k]with|none=>none|some f=>if acc.length=8\/Fy acc f=false then none else E5 c (ps.drop (k+1)) (acc++[f])):=by
 rw[List.drop_eq_getElem_cons hk,E5];cases Gq c ps[k]<;>rfl
theorem Qb7{acc:List Fd}{f:Fd}(h:∀g∈acc,g.name≠f.name/\g.tag<f.tag):Fy acc f=true:=Ka.2 h
theorem Zn{acc:List Fd}{f x:Fd}(hx:x∈acc)(h:f.tag<=x.tag\/x.name=f.name):Fy acc f=false:=by
 cases hh:Fy acc f with
 |false=>rfl
 |true=>
  obtain⟨h1,h2⟩:=Ka.1 hh x hx;rcases h with h|h
  ·omega
  exact absurd h h1
theorem Rp(w:World)(a:Addr)(v:Value):w.grownBy (w.setCell a v) (some a.block):=
 ⟨rfl,rfl,rfl,by simp,fun k _ hk=>Go.heap_setCell_other _ _ _ _ (fun e=>hk (by rw[e]))⟩
theorem Xi{w:World}{base k n:Nat}{e:TypeId}{v:Value}{xs:List Value}(h:w.ownsRow base e k v n xs):∃A m c,v=.slice A m c:=by
 rcases h.2 with⟨rfl,_⟩|⟨g,cap,cur,rfl,_⟩
 ·exact⟨_,_,_,rfl⟩
 exact⟨_,_,_,rfl⟩
theorem Tryz.infoIf:(prog.info? 85).map (fun i=>(i.zero,i.size,i.bytes))=some (some (.agg #[.int .i64 0,a8,a8,a8,a8,a8]),6,88):=aJ
theorem Qh1(fs:List Fd):∀y∈fs.flatMap Qx,y.oneCell'=true:=by
 intro y hy;obtain⟨f,_,hf⟩:=List.mem_flatMap.1 hy;simp[Qx]at hf;rcases hf with rfl|rfl|rfl|rfl|rfl|rfl<;>rfl
end
end Go.Proofs.YtkigmebejmmikaaGreatDoor
