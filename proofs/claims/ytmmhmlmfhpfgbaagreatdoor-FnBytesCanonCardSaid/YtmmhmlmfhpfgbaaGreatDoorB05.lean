/- Texts joined. Conditions: as each theorem names them. -/
import Derived.Deep.RegionWith
import Derived.Laws.Rows
import Derived.BigRegion
import Derived.BigQuiet
import Derived.Deep.QuietTactic
import Derived.Test.YtmmhmlmfhpfgbaaGreatDoorB03
set_option maxRecDepth 100000
set_option maxHeartbeats 32000000
set_option linter.unusedVariables false
set_option linter.unusedSimpArgs false
namespace Go.Proofs.YtmmhmlmfhpfgbaaGreatDoor
open Go.RowKit Go.Proofs.Tryz
section
attribute [local go_sem] Qra Qpu Qo3 Qmi ByteArray.mk_append_mk
def Fi(k:Kd):Value:=.agg #[k.signs,k.base,k.name]
def J8(o:Option Kd)(w:World)(e:Ending)(w':World):Prop:=
 (match o with
  |some k=>e=.returned (.tuple #[Fi k,.bool true])
  |none=>∃(a b c:ByteArray),e=.returned (.tuple #[.agg #[.string a,.string b,.string c],.bool false]))/\Below w w w'
theorem J8.no{w w':World}{e:Ending}{o:Option Kd}(ho:o=none){a b c:ByteArray}(he:e=.returned (.tuple #[.agg #[.string a,.string b,.string c],.bool false]))(hb:Below w w w'):J8 o w e w':=by
 rw[ho];exact⟨⟨a,b,c,he⟩,hb⟩
theorem J8.yes{w w':World}{e:Ending}{o:Option Kd}{k:Kd}(ho:o=some k)(he:e=.returned (.tuple #[Fi k,.bool true]))(hb:Below w w w'):J8 o w e w':=by
 rw[ho];exact⟨he,hb⟩
theorem Qlo(c:UInt8):([91,63]:List UInt8).contains c=Bi c:=by
 have:=Qx (p:=fun c=>([91,63]:List UInt8).contains c == Bi c) eK c;simpa using this
theorem Qiz(s:List UInt8):s.dropWhile (([91,63]:List UInt8).contains ·)=s.dropWhile Bi:=by
 congr 1;funext c;exact Qlo c
theorem Rk(r:List UInt8)(c:UInt8):Lib.hasSuffix r [c]=decide (r.getLast?=some c):=by
 rcases Fl r with rfl|⟨t,d,rfl⟩
 ·rfl
 unfold Lib.hasSuffix List.isSuffixOf;rw[List.reverse_append,List.getLast?_append];by_cases h:c=d
 ·subst h;simp[List.isPrefixOf]
 have h':d≠c:=fun e=>h e.symm;simp[List.isPrefixOf,h,h']
theorem Qe3(s:List UInt8)(h:s.length<=12):∃g r,s=g++r/\s.dropWhile Bi=r /\
  ((∃b,(b=110\/b=116\/b=102)/\r=[b]/\C5 s=some ⟨g,r,[]⟩) \/
   (∃nm,r=64::(nm++[59])/\C5 s=if Bf nm=true then some ⟨g,[64],nm⟩else none) \/
   ((r == [110])=false/\(r == [116])=false/\(r == [102])=false/\(r.head?≠some 64\/(r.head?=some 64/\r.getLast?≠some 59))/\C5 s=none)):=by
 refine⟨s.takeWhile Bi,s.dropWhile Bi,List.takeWhile_append_dropWhile.symm,rfl,?_⟩;unfold C5;rw[if_neg aI];by_cases h1:s.dropWhile Bi=[110]\/s.dropWhile Bi=[116]\/s.dropWhile Bi=[102]
 ·left;rw[if_pos h1];rcases h1 with h|h|h
  ·exact⟨110,by simp,h,rfl⟩
  ·exact⟨116,by simp,h,rfl⟩
  exact⟨102,by simp,h,rfl⟩
 right;rw[if_neg h1];simp only[not_or]at h1;by_cases h2:(s.dropWhile Bi).head?=some 64
 ·by_cases h3:(s.dropWhile Bi).getLast?=some 59
  ·left;have e:=Qhm h2 h3;refine⟨((s.dropWhile Bi).drop 1).dropLast,e,?_⟩;by_cases h4:Bf ((s.dropWhile Bi).drop 1).dropLast=true
   ·rw[if_pos ⟨h2,h3,h4⟩,if_pos h4]
   rw[if_neg (fun h=>h4 h.2.2),if_neg h4]
  right;refine⟨by simpa using h1.1,by simpa using h1.2.1,by simpa using h1.2.2,.inr ⟨h2,h3⟩,?_⟩;rw[if_neg (fun h=>h3 h.2.1)]
 right;refine⟨by simpa using h1.1,by simpa using h1.2.1,by simpa using h1.2.2,.inl h2,?_⟩;rw[if_neg (fun h=>h2 h.1)]
theorem Th(s:List UInt8)(w:World)(hs:s.length<=4000000):
  Calls prog 81 #[s] w (J8 (C5 s) w):=by
 rcases aH 12 s.length with h12|h12
 ·have Hn:=Aa (show C5 s=none by unfold C5;rw[if_pos h12]);go_enter func81,ntmps81;go_wp2_with fail;refine aG (v:=.tuple #[.agg #[a6,a6,a6],.bool false]) (by simp[results,results81,go_sem]) rfl ?_;exact J8.no Hn.o rfl ((Aq _ _).alloc (Al _) _)
 obtain⟨g,r,hsr,hr,hcase⟩:=Qe3 s h12;have hT:=fun W=>Pg s [91,63] W aL aL;simp only[Qiz,hr]at hT;have HT:=Aa hT;have hl:s.length=g.length+r.length:=by rw[hsr];simp
 have Htk:=Aa (show s.take (s.length - r.length)=g by rw[hl,hsr];simp);have k1:(0:Int)<=(s.length:Int) - (r.length:Int):=aI;have k2:(s.length:Int) - (r.length:Int)<=(s.length:Int):=aI;have k3:((s.length:Int) - (r.length:Int)).toNat=s.length - r.length:=aI;have hr12:r.length<=12:=aI;have hl1:r.length<=s.length:=aI;clear hT hr hl hsr;rcases hcase with⟨b,hb,rfl,hk⟩|⟨nm,rfl,hk⟩|⟨q1,q2,q3,hh,hk⟩
 ·have h1:1<=s.length:=by simp at hl1;omega
  have Hg:=Aa (show s.take (s.length - 1)=g by simpa using Htk.o);have Hk:=Aa hk;clear hk k1 k2 k3;rcases hb with rfl|rfl|rfl
  ·go_enter func81,ntmps81;go_wp2_with fail;refine(HT.o _).mono ?_;rintro e w1 ⟨rfl,hb⟩;obtain⟨hc,hfz,hz⟩:=Ci hb;have hzz:=hz w.heap.size aK;have hn1:¬(w1.heap.size=w.heap.size):=aI;have hn2:¬(w.heap.size=w1.heap.size):=aI;have Hb:=Aa (((Aq w.heap.size w).alloc (Al _) _).trans (hb.mono aK));have u0:w1.cell? (w,0)=a6:=fF;have u1:w1.cell? (w,1)=a6:=fG;have u2:w1.cell? (w,2)=a6:=fH;have fu:∀j,w1.frozen? ⟨w.heap.size,j,none⟩=false:=fun j=>fC;clear hb hc hfz hz;go_wp2_with fail;refine aG (v:=.tuple #[.agg #[.string ⟨(s.take (s.length - 1)).toArray⟩,.string ⟨#[110]⟩,a6],.bool true]) (by simp[results,results81,go_sem,u0,u1,u2,fu,hn1,hn2,hzz]) rfl ?_;exact J8.yes Hk.o f5 aV
  ·go_enter func81,ntmps81;go_wp2_with fail;refine(HT.o _).mono ?_;rintro e w1 ⟨rfl,hb⟩;obtain⟨hc,hfz,hz⟩:=Ci hb;have hzz:=hz w.heap.size aK;have hn1:¬(w1.heap.size=w.heap.size):=aI;have hn2:¬(w.heap.size=w1.heap.size):=aI;have Hb:=Aa (((Aq w.heap.size w).alloc (Al _) _).trans (hb.mono aK));have u0:w1.cell? (w,0)=a6:=fF;have u1:w1.cell? (w,1)=a6:=fG;have u2:w1.cell? (w,2)=a6:=fH;have fu:∀j,w1.frozen? ⟨w.heap.size,j,none⟩=false:=fun j=>fC;clear hb hc hfz hz;go_wp2_with fail;refine aG (v:=.tuple #[.agg #[.string ⟨(s.take (s.length - 1)).toArray⟩,.string ⟨#[116]⟩,a6],.bool true]) (by simp[results,results81,go_sem,u0,u1,u2,fu,hn1,hn2,hzz]) rfl ?_;exact J8.yes Hk.o f5 aV
  go_enter func81,ntmps81;go_wp2_with fail;refine(HT.o _).mono ?_;rintro e w1 ⟨rfl,hb⟩;obtain⟨hc,hfz,hz⟩:=Ci hb;have hzz:=hz w.heap.size aK;have hn1:¬(w1.heap.size=w.heap.size):=aI;have hn2:¬(w.heap.size=w1.heap.size):=aI;have Hb:=Aa (((Aq w.heap.size w).alloc (Al _) _).trans (hb.mono aK));have u0:w1.cell? (w,0)=a6:=fF;have u1:w1.cell? (w,1)=a6:=fG;have u2:w1.cell? (w,2)=a6:=fH;have fu:∀j,w1.frozen? ⟨w.heap.size,j,none⟩=false:=fun j=>fC;clear hb hc hfz hz;go_wp2_with fail;refine aG (v:=.tuple #[.agg #[.string ⟨(s.take (s.length - 1)).toArray⟩,.string ⟨#[102]⟩,a6],.bool true]) (by simp[results,results81,go_sem,u0,u1,u2,fu,hn1,hn2,hzz]) rfl ?_;exact J8.yes Hk.o f5 aV
 ·have h1:nm.length+2<=s.length:=by simp at hl1;omega
  have Hg:=Aa (show s.take (s.length - (nm.length+1+1))=g by simpa using Htk.o);have hnl:nm.length<=12:=aI;have hmid:(nm++[59]).take nm.length=nm:=aK;have Hn:=Aa (fun W=>Mr nm W aI);have hp:([64]:List UInt8).isPrefixOf (64::(nm++[59]))=true:=rfl;have hs:Lib.hasSuffix (64::(nm++[59])) [59]=true:=by
   rw[Rk,show (64:UInt8)::(nm++[59])=(64::nm)++[59]from rfl,List.getLast?_append];rfl
  have Hp:=Aa (fun W=>Rl (64::(nm++[59])) [64] W);have Hs:=Aa (fun W=>Rh (64::(nm++[59])) [59] W aO);rw[hp]at Hp;rw[hs]at Hs;clear hp hs k1 k2 k3;rcases Bool.eq_false_or_eq_true (Bf nm)with hnm|hnm
  ·rw[if_pos hnm]at hk;rw[hnm]at Hn;have Hk:=Aa hk;clear hk hnm;go_enter func81,ntmps81;go_wp2_with fail;refine(HT.o _).mono ?_;rintro e w1 ⟨rfl,hb⟩;obtain⟨hc,hfz,hz⟩:=Ci hb;have hzz:=hz w.heap.size aK;have hn1:¬(w1.heap.size=w.heap.size):=aI;have hn2:¬(w.heap.size=w1.heap.size):=aI;have Hb:=Aa (((Aq w.heap.size w).alloc (Al _) _).trans (hb.mono aK));have u0:w1.cell? (w,0)=a6:=fF;have u1:w1.cell? (w,1)=a6:=fG;have u2:w1.cell? (w,2)=a6:=fH;have fu:∀j,w1.frozen? ⟨w.heap.size,j,none⟩=false:=fun j=>fC;clear hb hc hfz hz;go_wp2_with fail;refine(Hp.o _).mono ?_;rintro e w2 ⟨rfl,rfl⟩;go_wp2_with fail;refine(Hs.o _).mono ?_;rintro e w2 ⟨rfl,rfl⟩;go_wp2_with fail;go_region_with (go_at_call 138;refine(Hn.o _).mono ?_;rintro e w' ⟨rfl,hb6⟩;obtain⟨hc6,hfz6,hz6⟩:=Ci hb6;have y0:w'.cell? (w,0)=a6:=ej;have y1:w'.cell? (w,1)=a6:=eo;have y2:w'.cell? (w,2)=a6:=ep;have y6:=hz6 w.heap.size aO)
   all_goals
    go_wp2
    refine aG (v:=.tuple #[.agg #[.string ⟨(s.take (s.length - (nm.length+1+1))).toArray⟩,.string ⟨#[64]⟩,nm],.bool true]) (by simp[results,results81,go_sem,u0,u1,u2,fu,hn1,hn2,hzz,y0,y1,y2]) rfl ?_;exact J8.yes Hk.o f5 bH
  rw[if_neg (by rw[hnm];decide)]at hk;rw[hnm]at Hn;have Hk:=Aa hk;clear hk hnm;go_enter func81,ntmps81;go_wp2_with fail;refine(HT.o _).mono ?_;rintro e w1 ⟨rfl,hb⟩;obtain⟨hc,hfz,hz⟩:=Ci hb;have hzz:=hz w.heap.size aK;have hn1:¬(w1.heap.size=w.heap.size):=aI;have hn2:¬(w.heap.size=w1.heap.size):=aI;have Hb:=Aa (((Aq w.heap.size w).alloc (Al _) _).trans (hb.mono aK));have u0:w1.cell? (w,0)=a6:=fF;have u1:w1.cell? (w,1)=a6:=fG;have u2:w1.cell? (w,2)=a6:=fH;have fu:∀j,w1.frozen? ⟨w.heap.size,j,none⟩=false:=fun j=>fC;clear hb hc hfz hz;go_wp2_with fail;refine(Hp.o _).mono ?_;rintro e w2 ⟨rfl,rfl⟩;go_wp2_with fail;refine(Hs.o _).mono ?_;rintro e w2 ⟨rfl,rfl⟩;go_wp2_with fail;go_region_with (go_at_call 138;refine(Hn.o _).mono ?_;rintro e w' ⟨rfl,hb6⟩;obtain⟨hc6,hfz6,hz6⟩:=Ci hb6;have y0:w'.cell? (w,0)=a6:=ej;have y1:w'.cell? (w,1)=a6:=eo;have y2:w'.cell? (w,2)=a6:=ep;have y6:=hz6 w.heap.size aO)
  all_goals
   go_wp2
   refine aG (v:=.tuple #[.agg #[.string ⟨(s.take (s.length - (nm.length+1+1))).toArray⟩,.string ⟨#[64]⟩,nm],.bool false]) (by simp[results,results81,go_sem,u0,u1,u2,fu,hn1,hn2,hzz,y0,y1,y2]) rfl ?_;exact J8.no Hk.o rfl bH
 have Hp:=Aa (fun W=>Rl r [64] W);have Hs:=Aa (fun W=>Rh r [59] W aI);have Hk:=Aa hk;have q1':¬(r=[110]):=by simpa using q1
 have q2':¬(r=[116]):=by simpa using q2
 have q3':¬(r=[102]):=by simpa using q3
 clear hk k1 k2 k3;rcases hh with hh|⟨hh,hl2⟩
 ·have hp:([64]:List UInt8).isPrefixOf r=false:=by
   cases r with
   |nil=>rfl
   |cons c r=>simp at hh;simp[List.isPrefixOf];exact fun e=>hh e.symm
  rw[hp]at Hp;clear hp hh;go_enter func81,ntmps81;go_wp2_with fail;refine(HT.o _).mono ?_;rintro e w1 ⟨rfl,hb⟩;obtain⟨hc,hfz,hz⟩:=Ci hb;have hzz:=hz w.heap.size aK;have hn1:¬(w1.heap.size=w.heap.size):=aI;have hn2:¬(w.heap.size=w1.heap.size):=aI;have Hb:=Aa (((Aq w.heap.size w).alloc (Al _) _).trans (hb.mono aK));have u0:w1.cell? (w,0)=a6:=fF;have u1:w1.cell? (w,1)=a6:=fG;have u2:w1.cell? (w,2)=a6:=fH;have fu:∀j,w1.frozen? ⟨w.heap.size,j,none⟩=false:=fun j=>fC;clear hb hc hfz hz;go_wp2_with fail;refine(Hp.o _).mono ?_;rintro e w2 ⟨rfl,rfl⟩;go_wp2_with fail;refine aG (v:=.tuple #[.agg #[a6,a6,a6],.bool false]) (by simp[results,results81,go_sem,u0,u1,u2,fu,hn1,hn2,hzz]) rfl ?_;exact J8.no Hk.o rfl aV
 have hp:([64]:List UInt8).isPrefixOf r=true:=by
  cases r with
  |nil=>simp at hh
  |cons c r=>simp at hh;subst hh;rfl
 have hs:Lib.hasSuffix r [59]=false:=by rw[Rk];simpa using hl2
 rw[hp]at Hp;rw[hs]at Hs;clear hp hs hh hl2;go_enter func81,ntmps81;go_wp2_with fail;refine(HT.o _).mono ?_;rintro e w1 ⟨rfl,hb⟩;obtain⟨hc,hfz,hz⟩:=Ci hb;have hzz:=hz w.heap.size aK;have hn1:¬(w1.heap.size=w.heap.size):=aI;have hn2:¬(w.heap.size=w1.heap.size):=aI;have Hb:=Aa (((Aq w.heap.size w).alloc (Al _) _).trans (hb.mono aK));have u0:w1.cell? (w,0)=a6:=fF;have u1:w1.cell? (w,1)=a6:=fG;have u2:w1.cell? (w,2)=a6:=fH;have fu:∀j,w1.frozen? ⟨w.heap.size,j,none⟩=false:=fun j=>fC;clear hb hc hfz hz;go_wp2_with fail;refine(Hp.o _).mono ?_;rintro e w2 ⟨rfl,rfl⟩;go_wp2_with fail;refine(Hs.o _).mono ?_;rintro e w2 ⟨rfl,rfl⟩;go_wp2_with fail;refine aG (v:=.tuple #[.agg #[a6,a6,a6],.bool false]) (by simp[results,results81,go_sem,u0,u1,u2,fu,hn1,hn2,hzz]) rfl ?_;exact J8.no Hk.o rfl aV
end
def Tq(f:Fd):List Value:=[(f.tag:Int),f.name,f.kind.signs,f.kind.base,f.kind.name,f.given]
def ifV(f:Fd):Value:=.agg #[(f.tag:Int),f.name,f.kind.signs,f.kind.base,f.kind.name,f.given]
theorem Qhy(f:Fd):(Tq f).length=6:=rfl
def Qag(w:World)(v:Value)(fs:List Fd):Prop:=∃A c,v=.slice A fs.length c/\fs.length<=8/\Ca w A (fs.length*6) (fs.flatMap Tq)
theorem Qag.below{w w':World}{v:Value}{fs:List Fd}(h:Qag w v fs)(hb:Below w w w'):Qag w' v fs:=by
 exact im
theorem Qag.at_{w:World}{A:Option Addr}{fs:List Fd}(hr:Ca w A (fs.length*6) (fs.flatMap Tq)){i:Nat}(hi:i<fs.length):
  ∃b off,A=some ⟨b,off,none⟩/\b<w.heap.size/\w.cell? ⟨b,off+i*6,none⟩=some (.int .i64 (fs[i].tag:Int))/\w.cell? ⟨b,off+i*6+1,none⟩=some (.string ⟨fs[i].name.toArray⟩) /\
   w.cell? ⟨b,off+i*6+2,none⟩=some (.string ⟨fs[i].kind.signs.toArray⟩)/\w.cell? ⟨b,off+i*6+3,none⟩=some (.string ⟨fs[i].kind.base.toArray⟩) /\
   w.cell? ⟨b,off+i*6+4,none⟩=some (.string ⟨fs[i].kind.name.toArray⟩)/\w.cell? ⟨b,off+i*6+5,none⟩=some (.string ⟨fs[i].given.toArray⟩):=by
 obtain⟨b,off,e,hlt,hc⟩:=hr.elem Qhy aL hi;refine⟨b,off,e,hlt,?_,?_,?_,?_,?_,?_⟩
 ·exact hH
 ·exact gM
 ·exact gX
 ·have:=hc 3 _ rfl;simpa [Nat.add_assoc]using this
 ·have:=hc 4 _ rfl;simpa [Nat.add_assoc]using this
 have:=hc 5 _ rfl;simpa [Nat.add_assoc]using this
structure PT where
 ty:Ty
 blk:Nat
 fv:Value
def Qk(w:World)(b:Nat):Prop:=∃cs t,w.heap[b]?=some (.cells cs t (0,0))
theorem Qk.belowAt{B:Nat}{w w':World}{b:Nat}(h:Qk w b)(hb:b<B)(hw:Below B w w'):Qk w' b:=by
 obtain⟨cs,t,h⟩:=h;exact⟨cs,t,(hw.block b hb).trans h⟩
theorem Qk.grown{w w':World}{b:Nat}{row:Option Nat}(h:Qk w b)(hb:b<w.heap.size)(hg:w.grownBy w' row)(hne:some b≠row):Qk w' b:=by
 obtain⟨cs,t,h⟩:=h;exact⟨cs,t,(hg.block b hb hne).trans h⟩
theorem Qk.set{w:World}{b o:Nat}(h:Qk w b)(v:Value):Qk (w.setCell ⟨b,o,none⟩ v) b:=by
 obtain⟨cs,t,h⟩:=h;exact⟨_,t,heap_setCell_same w b o cs t v h⟩
theorem Qk.new(w:World)(cs:Array Value)(t:TypeId):Qk (w.alloc (.cells cs t)) w.heap.size:=⟨cs,t,heap_alloc_new w _⟩
def PT.ptr(x:PT):Value:=x.blk
def Tc(w:World)(x:PT):Prop:=
 x.blk<w.heap.size/\Qk w x.blk/\w.cell? (x.blk,0)=some (.int .u8 (x.ty.sort.toNat:Int))/\w.cell? (x.blk,1)=x.ty.name/\w.cell? (x.blk,2)=some x.fv/\w.cell? (x.blk,3)=some (.string ⟨(tyB x.ty).toArray⟩)/\Qag w x.fv x.ty.fields
theorem Tc.below{w w':World}{x:PT}(h:Tc w x)(hb:Below w w w'):Tc w' x:=by
 obtain⟨h0,hk,h1,h2,h3,h4,h5⟩:=h;obtain⟨hc,_,hz⟩:=Ci hb;exact⟨hz _ h0,hk.belowAt h0 hb,(hc _ _ h0).trans h1,(hc _ _ h0).trans h2,(hc _ _ h0).trans h3,(hc _ _ h0).trans h4,h5.below hb⟩
def Ah(xs:List PT):List Ty:=xs.map (·.ty)
def Fh(xs:List PT)(n:Cy):Option PT:=xs.find? fun x=>decide (x.ty.name=n)
theorem Jr(xs:List PT)(n:Cy):B9 (Ah xs) n=(Fh xs n).map (·.ty):=by
 unfold B9 Ah Fh;rw[List.find?_map];rfl
theorem Gy{xs:List PT}{n:Cy}{x:PT}(h:Fh xs n=some x):x∈xs/\x.ty.name=n/\B9 (Ah xs) n=some x.ty:=by
 refine⟨List.mem_of_find?_eq_some h,?_,by rw[Jr,h];rfl⟩;have:=List.find?_some h;simpa using this
def Rb:Option PT->Value
 |some x=>x.ptr
 |none=>.pointer none
def Qap(xs:List PT)(l:Lit):Value:=match l with|.string s=>Rb (Fh xs s)|_=>.pointer none
theorem Tryz.keyStr:Go.Maps.Keyed prog 9:=Go.Maps.string_keyed underlying9
theorem Tryz.zeroPtr(w:World):(zeroValue 90).run prog w=.ok (.pointer none) w:=aN
def Pv(w:World)(mb:Nat)(xs:List PT):Prop:=D5 prog 9 (.pointer none) w mb xs.length (Qap xs)
def To(w:World)(p:Value)(xs:List PT):Prop:=
 ∃b A c mb,p=.pointer (some ⟨b,0,none⟩)/\b<w.heap.size/\w.cell? ⟨b,0,none⟩=some (.slice A xs.length c)/\w.cell? ⟨b,1,none⟩=some (.map (some mb))/\Ca w A xs.length (xs.map (·.ptr))/\Pv w mb xs/\(∀x∈xs,Tc w x)/\xs.Pairwise fun x y=>x.blk≠y.blk
theorem To.below{w w':World}{p:Value}{xs:List PT}(h:To w p xs)(hb:Below w w w'):To w' p xs:=by
 obtain⟨b,A,c,mb,e,h0,h1,h2,h3,h4,h5,h6⟩:=h;obtain⟨hc,_,hz⟩:=Ci hb;exact⟨b,A,c,mb,e,hz _ h0,(hc _ _ h0).trans h1,(hc _ _ h0).trans h2,h3.below hb,D5.below h4 hb,fun x hx=>(h5 x hx).below hb,h6⟩
theorem Qhg{n:Cy}(h:n.length<=9223372036854775807):keyOf prog 9 n=some (.string n):=by
 have:=Go.WideMaps.keyOf_string_mk (P:=prog) (k:=9) underlying9 (s:=⟨n.toArray⟩) (by unfold maxLen;exact h);simpa using this
def Em(o:Option Fd)(w:World)(e:Ending)(w':World):Prop:=
 (match o with
  |some f=>e=.returned (.tuple #[ifV f,.bool true])
  |none=>∃(n:Int) (a b c d g:ByteArray),e=.returned (.tuple #[.agg #[.int .i64 n,.string a,.string b,.string c,.string d,.string g],.bool false]))/\Below w w w'
theorem Em.no{w w':World}{e:Ending}{o:Option Fd}(ho:o=none){n:Int}{a b c d g:ByteArray}(he:e=.returned (.tuple #[.agg #[.int .i64 n,.string a,.string b,.string c,.string d,.string g],.bool false]))(hb:Below w w w'):Em o w e w':=by
 rw[ho];exact⟨⟨n,a,b,c,d,g,he⟩,hb⟩
theorem Em.yes{w w':World}{e:Ending}{o:Option Fd}{f:Fd}(ho:o=some f)(he:e=.returned (.tuple #[ifV f,.bool true]))(hb:Below w w w'):Em o w e w':=by
 rw[ho];exact⟨he,hb⟩
def Ps(x:Vl × Value):List Value:=[.int .u8 (x.1.what.toNat:Int),x.1.text,(x.1.tag:Int),x.2]
def Gf(v:Vl)(sl:Value):Value:=.agg #[.int .u8 (v.what.toNat:Int),v.text,(v.tag:Int),sl]
theorem Qdh(x:Vl × Value):(Ps x).length=4:=rfl
def Av(xs:List (Vl × Value)):List Vl:=xs.map (·.1)
inductive Eb(P:Nat->Prop)(w:World):Value->List Vl->Prop
 |mk {v:Value} {ks:List Vl} (A:Option Addr) (c:Nat) (xs:List (Vl × Value)) (hv:v=.slice A xs.length c) (hk:ks=Av xs) (hl:xs.length<=1000) (hr:Ca w A (xs.length*4) (xs.flatMap Ps))
   (hP:∀g o,0<xs.length->A=some ⟨g,o,none⟩->P g) (h:∀x∈xs,Eb P w x.2 x.1.kids):Eb P w v ks
theorem Eb.kept{P Q:Nat->Prop}{w w':World}{v:Value}{ks:List Vl}(h:Eb P w v ks)(hc:∀b o u,P b->b<w.heap.size->w.cell? ⟨b,o,none⟩=some u->w'.cell? ⟨b,o,none⟩=some u)
  (hz:w.heap.size<=w'.heap.size) (hQ:∀b,P b->b<w.heap.size->Q b):Eb Q w' v ks:=by
 induction h with
 |mk A c xs hv hk hl hr hP h ih=>
  refine .mk A c xs hv hk hl ⟨hr.1,hr.2.1,fun hn=>?_⟩ (fun g o hn e=>?_) ih
  ·obtain⟨b,off,e,hlt,hcs⟩:=hr.2.2 hn;exact⟨b,off,e,by omega,fun j u hu=>hc b _ u (hP b off aI e) hlt (hcs j u hu)⟩
  obtain⟨b,off,e2,hlt,_⟩:=hr.2.2 aI;rw[e]at e2;injection e2 with e2;injection e2 with e2 _ _;subst e2;exact hQ g (hP g o hn e) hlt
theorem Eb.after{P:Nat->Prop}{w w':World}{v:Value}{ks:List Vl}(h:Eb P w v ks)(hb:Below w w w'):Eb P w' v ks:=
 h.kept (fun b o u _ hl hu=>(hb.cell (p:=⟨b,o,none⟩) hl).trans hu) hb.size fun _ h _=>h
theorem Eb.mono{P Q:Nat->Prop}{w:World}{v:Value}{ks:List Vl}(h:Eb P w v ks)(hQ:∀b,P b->b<w.heap.size->Q b):Eb Q w v ks:=h.kept (fun _ _ _ _ _ hu=>hu) (Al _) hQ
theorem Eb.grown{P:Nat->Prop}{w w':World}{v:Value}{ks:List Vl}{row:Option Nat}(h:Eb P w v ks)(hg:w.grownBy w' row)(hne:∀b,P b->some b≠row):Eb P w' v ks:=
 h.kept (fun b o u hp _ hu=>hg.cell hu (hne b hp)) hg.size fun _ h _=>h
theorem Eb.nil(P:Nat->Prop)(w:World):Eb P w (.slice none 0 0) []:=.mk none 0 [] rfl rfl aK ⟨rfl,ag _,fun h=>absurd h aK⟩ (fun _ _ h=>absurd h aK) aK
theorem Eb.form{P:Nat->Prop}{w:World}{v:Value}{ks:List Vl}(h:Eb P w v ks):∃A c,v=.slice A ks.length c:=by
 obtain⟨A,c,xs,rfl,rfl,_,_,_,_⟩:=h;exact⟨A,c,by simp[Av]⟩
theorem Eb.at_{w:World}{A:Option Addr}{xs:List (Vl × Value)}(hr:Ca w A (xs.length*4) (xs.flatMap Ps)){i:Nat}(hi:i<xs.length):
  ∃b off,A=some ⟨b,off,none⟩/\b<w.heap.size/\w.cell? ⟨b,off+i*4,none⟩=some (.int .u8 (xs[i].1.what.toNat:Int))/\w.cell? ⟨b,off+i*4+1,none⟩=some (.string ⟨xs[i].1.text.toArray⟩) /\
   w.cell? ⟨b,off+i*4+2,none⟩=some (.int .i64 (xs[i].1.tag:Int))/\w.cell? ⟨b,off+i*4+3,none⟩=some xs[i].2:=by
 obtain⟨b,off,e,hlt,hc⟩:=hr.elem Qdh aL hi;refine⟨b,off,e,hlt,?_,?_,?_,?_⟩
 ·exact hH
 ·exact gM
 ·exact gX
 have:=hc 3 _ rfl;simpa [Nat.add_assoc]using this
section
attribute [local go_sem] Qra Qpu Qo3 Qmi ByteArray.mk_append_mk
def G0(w:World)(b:Nat)(p:Value)(t:List UInt8)(bad:Bool):Prop:=b<w.heap.size/\Qk w b/\w.cell? (b,0)=some p/\w.cell? (b,1)=t/\w.cell? (b,2)=some (.bool bad)
theorem Qk.live{w:World}{b:Nat}(h:Qk w b)(o:Nat):w.frozen? ⟨b,o,none⟩=false:=by
 obtain⟨cs,t,h⟩:=h;simp[World.frozen?,h]
theorem G0.far{w w':World}{b:Nat}{p:Value}{t:List UInt8}{bad:Bool}(h:G0 w b p t bad){B:Nat}(hb:Below B w w')(hB:b<B):G0 w' b p t bad:=by
 obtain⟨h0,h1,h2,h3,h4⟩:=h;exact⟨ac h0 hb.size,h1.belowAt hB hb,(hb.cell (p:=⟨b,0,none⟩) hB).trans h2,(hb.cell (p:=⟨b,1,none⟩) hB).trans h3,(hb.cell (p:=⟨b,2,none⟩) hB).trans h4⟩
theorem G0.drew{w:World}{b:Nat}{p:Value}{t:List UInt8}{bad:Bool}(h:G0 w b p t bad)(k:Nat):G0 (w.drewN k) b p t bad:=h.far (below_drewN (Aq w.heap.size w) k) h.1
theorem G0.setBad{w:World}{b:Nat}{p:Value}{t:List UInt8}{bad:Bool}(h:G0 w b p t bad)(x:Bool):G0 (w.setCell ⟨b,2,none⟩ (.bool x)) b p t x:=by
 obtain⟨h0,h1,h2,h3,h4⟩:=h;have hf:=h1.live 2;exact⟨by simpa using h0,h1.set _,by simp[go_sem,h2],by simp[go_sem,h3],by simp[go_sem,h4,hf]⟩
theorem G0.setText{w:World}{b:Nat}{p:Value}{t:List UInt8}{bad:Bool}(h:G0 w b p t bad)(x:List UInt8):G0 (w.setCell ⟨b,1,none⟩ x) b p x bad:=by
 obtain⟨h0,h1,h2,h3,h4⟩:=h;have hf:=h1.live 1;exact⟨by simpa using h0,h1.set _,by simp[go_sem,h2],by simp[go_sem,h3,hf],by simp[go_sem,h4]⟩
theorem Qg9(w:World)(a:Addr)(v:Value):w.grownBy (w.setCell a v) (some a.block):=
 ⟨rfl,rfl,rfl,by simp,fun k _ hk=>Go.heap_setCell_other _ _ _ _ (fun e=>hk (by rw[e]))⟩
theorem Ai(w:World)(b o:Nat)(v:Value):w.grownBy (w.setCell ⟨b,o,none⟩ v) (some b):=Qg9 w ⟨b,o,none⟩ v
theorem Ei(b:Nat):∀(vs:List Value) (o:Nat) (w:World),w.grownBy (w.setCells b o vs) (some b)
 |[],_,w=>World.grownBy.refl _ _
 |v::r,o,w=>(Ai w b o v).trans (Ei b r (o+1) _)
theorem Cd{w w':World}(h:Below w w w')(row:Option Nat):w.grownBy w' row:=⟨h.os,h.tape,h.output,h.size,fun k hk _=>h.block k hk⟩
theorem Qdl(p s:List UInt8):Gk p s=if p.isPrefixOf s=true then some (s.drop p.length)else none:=by
 by_cases h:p.isPrefixOf s=true
 ·rw[if_pos h];rw[List.isPrefixOf_iff_prefix]at h;obtain⟨t,rfl⟩:=h;rw[Gu];simp
 rw[if_neg h];cases e:Gk p s with
 |none=>rfl
 |some r=>
  rw[Gu]at e;subst e;exact absurd aK h
theorem Qjv(c:UInt8)(s:List UInt8):Gk [c] s=As c s:=by
 unfold Gk;cases As c s<;>rfl
def cpV(s:List UInt8):Option (List UInt8)->Value
 |some r=>.tuple #[r,.bool true]
 |none=>.tuple #[s,.bool false]
theorem Qan(s p:List UInt8)(w:World)(hs:s.length<=4000000):
  Calls prog 197 #[s,p] w fun e w'=>e=.returned (cpV s (Gk p s))/\∃k,w'=w.drewN k:=by
 have HW:=Aa (Qdl p s);have Hp:=Aa (fun W=>Y6 s p W);by_cases h:p.isPrefixOf s=true
 ·have HW2:=Aa (HW.o.trans (if_pos h));have hl:p.length<=s.length:=by rw[List.isPrefixOf_iff_prefix]at h;exact h.length_le
  have h1:(p.length:Int)<=(s.length:Int):=aI;have h2:(0:Int)<=(p.length:Int):=aI;rw[h]at Hp;clear h HW;go_enter func197,ntmps197;go_wp2_with fail;refine(Hp.o _).mono ?_;rintro e w1 ⟨rfl,rfl⟩;go_wp2_with fail;go_ret2;exact⟨by rw[HW2.o];rfl,0,rfl⟩
 have HW2:=Aa (HW.o.trans (if_neg h));have h':p.isPrefixOf s=false:=Bool.eq_false_iff.2 h;rw[h']at Hp;clear h h' HW;go_enter func197,ntmps197;go_wp2_with fail;refine(Hp.o _).mono ?_;rintro e w1 ⟨rfl,rfl⟩;go_wp2_with fail;go_ret2;exact⟨by rw[HW2.o];rfl,0,rfl⟩
theorem Qay(s p:List UInt8)(w:World)(hs:s.length<=4000000):
  Calls prog 139 #[s,p] w fun e w'=>e=.returned (cpV s (Gk p s))/\∃k,w'=w.drewN k:=by
 have Hp:=Aa (fun W=>Qan s p W hs);cases hw:Gk p s with
 |none=>
  rw[hw]at Hp;clear hw;go_enter func139,ntmps139;go_wp2_with fail;refine(Hp.o _).mono ?_;rintro e w1 ⟨rfl,k,rfl⟩;unfold cpV;go_wp2_with fail;go_ret2;exact⟨rfl,k,rfl⟩
 |some r=>
  rw[hw]at Hp;clear hw;go_enter func139,ntmps139;go_wp2_with fail;refine(Hp.o _).mono ?_;rintro e w1 ⟨rfl,k,rfl⟩;unfold cpV;go_wp2_with fail;go_ret2;exact⟨rfl,k,rfl⟩
def D2(w:World)(b:Nat)(p:Value)(t:List UInt8)(bad:Bool)(w':World):Prop:=G0 w' b p t bad/\w.grownBy w' (some b)
def Bg(lead t:List UInt8)(bad:Bool):Option (List UInt8):=if bad then none else Gk lead t
theorem J7(b:Nat)(p:Value)(t lead:List UInt8)(bad:Bool)(w:World)(h:G0 w b p t bad)(hl:t.length<=4000000):
  Calls prog 85 #[b,lead] w fun e w'=>
   e=.returned (.bool (Bg lead t bad).isSome)/\D2 w b p ((Bg lead t bad).getD t) bad w':=by
 have Hp:=Aa (fun W=>Qay t lead W hl);have HT:=@Aa (Bg lead t bad=if bad then none else Gk lead t) rfl;have HS:=Aa h;obtain⟨h0,h1,h2,h3,h4⟩:=h;have hfz:=h1.live 1;clear h1;cases hw:Gk lead t with
 |none=>
  have HT2:=Aa (show Bg lead t bad=none by rw[HT.o,hw];cases bad<;>rfl);rw[hw]at Hp;clear hw HT;go_enter func85,ntmps85;go_wp2_with fail;refine(Hp.o _).mono ?_;rintro e w1 ⟨rfl,k,rfl⟩;unfold cpV;go_wp2_with fail;go_ret;exact⟨by rw[HT2.o];rfl,by rw[HT2.o];exact⟨HS.o.drew k,Cd (below_drewN (Aq _ _) k) _⟩⟩
 |some r=>
  rw[hw]at Hp;cases bad with
  |true=>
   have HT2:=@Aa (Bg lead t true=none) rfl;clear hw HT;go_enter func85,ntmps85;go_wp2_with fail;refine(Hp.o _).mono ?_;rintro e w1 ⟨rfl,k,rfl⟩;unfold cpV;go_wp2_with fail;go_ret;exact⟨by rw[HT2.o];rfl,by rw[HT2.o];exact⟨HS.o.drew k,Cd (below_drewN (Aq _ _) k) _⟩⟩
  |false=>
   have HT2:=@Aa (Bg lead t false=some r) (HT.o.trans hw);clear hw HT;go_enter func85,ntmps85;go_wp2_with fail;refine(Hp.o _).mono ?_;rintro e w1 ⟨rfl,k,rfl⟩;unfold cpV;go_wp2_with fail;go_ret;exact⟨by rw[HT2.o];rfl,by rw[HT2.o];exact⟨(HS.o.drew k).setText r,(Cd (below_drewN (Aq _ _) k) _).trans (Ai _ _ _ _)⟩⟩
theorem Dx(b:Nat)(p:Value)(t lead:List UInt8)(bad:Bool)(w:World)(h:G0 w b p t bad)(hl:t.length<=4000000):
  Calls prog 84 #[b,lead] w fun e w'=>
   e=.returned (.tuple #[])/\D2 w b p ((Bg lead t bad).getD t) (Bg lead t bad).isNone w':=by
 have Hp:=Aa (J7 b p t lead bad w h hl);have HB:=Aa (show ∀r,Bg lead t bad=some r->bad=false by intro r h;cases bad;rfl;cases h);generalize Bg lead t bad=o at Hp HB ⊢;cases o with
 |some r=>
  obtain rfl:=HB.o r rfl;go_enter func84,ntmps84;go_wp2_with fail;refine Hp.o.mono ?_;rintro e w1 ⟨rfl,hs⟩;have HS:=Aa hs;clear hs;go_wp2_with fail;go_end0
  exact⟨rfl,HS.o⟩
 |none=>
  go_enter func84,ntmps84;go_wp2_with fail;refine Hp.o.mono ?_;rintro e w1 ⟨rfl,hs⟩;have HS:=Aa hs;obtain⟨⟨h0,h1,_,_,h4⟩,_⟩:=hs;have hfz:=h1.live 2;clear h1;go_wp2_with fail;go_end0
  exact⟨rfl,HS.o.1.setBad true,HS.o.2.trans (Ai _ _ _ _)⟩
def Qkl:List UInt8:=[48,49,50,51,52,53,54,55,56,57]
theorem Qlx(c:UInt8):Qkl.contains c=Bh c:=by
 have:=Qx (p:=fun c=>Qkl.contains c == Bh c) eK c;simpa using this
theorem Qmb(s:List UInt8):s.dropWhile (Qkl.contains ·)=s.dropWhile Bh:=by congr 1;funext c;exact Qlx c
theorem Qkt(s:List UInt8):s.dropWhile (Qgw.contains ·)=s.dropWhile Cn:=by congr 1;funext c;exact Qew c
theorem S5(p:UInt8->Bool)(s:List UInt8):s.take (s.length - (s.dropWhile p).length)=s.takeWhile p/\(s.dropWhile p).length<=s.length:=by
 have e:s.takeWhile p++s.dropWhile p=s:=List.takeWhile_append_dropWhile;have hl:(s.takeWhile p).length+(s.dropWhile p).length=s.length:=by rw[<-ah,e]
 refine⟨?_,by omega⟩;conv=>lhs;arg 2;rw[<-e]
 rw[show s.length - (s.dropWhile p).length=(s.takeWhile p).length by omega,List.take_left]
def Js(t:List UInt8):Nat:=(Cx (t.takeWhile Bh)).getD 0
def H6(m:Nat)(t:List UInt8):Bool:=match Cx (t.takeWhile Bh)with|some n=>decide (n<=m)|none=>false
theorem Qmu(m:Nat)(t:List UInt8):pnV (t.takeWhile Bh) m=.tuple #[.int .i64 (Js t:Int),.bool (H6 m t)]:=by
 unfold pnV Js H6;cases Cx (t.takeWhile Bh)<;>rfl
theorem G0.grow{w w':World}{b:Nat}{p:Value}{t:List UInt8}{bad:Bool}(h:G0 w b p t bad)(hb:Below w w w'):G0 w' b p t bad:=h.far hb h.1
theorem Qd(b m:Nat)(p:Value)(t:List UInt8)(bad:Bool)(w:World)(h:G0 w b p t bad)(hl:t.length<=4000000)(hm:m<=999999):
  Calls prog 141 #[b,.int .i64 m] w fun e w'=>
   e=.returned (.int .i64 (Js t:Int))/\D2 w b p (t.dropWhile Bh) (bad || !H6 m t) w':=by
 have Htl:=Aa (fun W=>Pg t Qkl W aL aL);simp only[Qmb]at Htl;have Hpn:=Aa (fun W=>Gc (t.takeWhile Bh) m W (by have:=(S5 Bh t).1;have h2:=List.length_take_le (t.length - (t.dropWhile Bh).length) t;rw[this]at h2;omega) hm);rw[Qmu]at Hpn;obtain⟨htk,hdl⟩:=S5 Bh t;have Htk:=Aa htk;unfold Qkl at Htl;have HS:=Aa h;have kw:IntKind.i64.wrap ((t.length:Int) - ((t.dropWhile Bh).length:Int))=(t.length:Int) - ((t.dropWhile Bh).length:Int):=IntWalk.i64_in _ aI;have k1:(0:Int)<=(t.length:Int) - ((t.dropWhile Bh).length:Int):=aI;have k2:(t.length:Int) - ((t.dropWhile Bh).length:Int)<=(t.length:Int):=aI;have k3:((t.length:Int) - ((t.dropWhile Bh).length:Int)).toNat=t.length - (t.dropWhile Bh).length:=aI;generalize Js t=n at *;generalize H6 m t=ok at *;generalize t.takeWhile Bh=a at *;generalize t.dropWhile Bh=r at *;obtain⟨h0,h1,h2,h3,h4⟩:=h;clear htk h1;go_enter func141,ntmps141;go_wp2_with fail;refine(Htl.o _).mono ?_;rintro e w1 ⟨rfl,hb1⟩;have HS1:=Aa (HS.o.grow hb1);have Hb1:=Aa hb1;have C1:=Aa ((hb1.cell (p:=⟨b,1,none⟩) h0).trans h3);have hz1:b<w1.heap.size:=by have:=hb1.size;omega
 clear hb1 HS h2 h3 h4;go_wp2_with fail;refine Xa [14,15,16,17,18,19,20,21,22,23,24,25,26,27,28,13,29,30,6,7]
  (fun ix v W=>match ix with|0=>v=b|1=>v=b|2=>v=(b,1)|3=>v=t|4=>v=b|5=>v=b|6=>v=(b,1)|7=>v=t|8=>v=(t.length:Int)|9=>v=r|10=>v=(r.length:Int)|11=>v=.int .i64 ((t.length:Int) - (r.length:Int))|12=>v=a|13=>v=(m:Int)|14=>v=.tuple #[(n:Int),.bool ok]|15=>v=.tuple #[(n:Int),.bool ok]|16=>v=(n:Int)|17=>v=.bool ok|18=>v=(n:Int)|19=>v=.bool ok|_=>True)
  (fun L U W=>∃k,W=w1.drewN k) (⟨1,rfl⟩) ?_ ?_
 ·repeat (first|exact Bb.nil|(refine Bb.cons ?_ ?_;rotate_left))
  all_goals
   rintro L U W hL hpre HR Hdep K hK;obtain⟨k,hk⟩:=HR.o;have c1:W.cell? (b,1)=t:=by rw[hk];exact C1.o
   clear hk;first|(simp[Region.binds]at hpre;done)|simp[Region.binds]at hpre|clear hpre
  iterate 11
   ·exact fP
  ·exact ic
  ·exact hC
  ·exact fP
  ·go_simp;refine(Hpn.o W).mono ?_;rintro e w' ⟨rfl,rfl⟩;exact kF hK HR.o
  iterate 5
   ·exact fP
 rintro L U W hL hφ hR;have e18:U 18=(n:Int):=hφ 18 aL;have e19:U 19=.bool ok:=hφ 19 aL;simp only[e18,e19];clear hφ;obtain⟨k,rfl⟩:=hR;clear hL;have HS2:=Aa (HS1.o.drew k);have Hb2:=Aa (below_drewN Hb1.o k);obtain⟨q0,q1,_,_,_⟩:=HS2.o;have hf1:=q1.live 1;have hf2:=q1.live 2;clear q1;have j2:=HS2.o.2.2.2.1;have j3:=HS2.o.2.2.2.2;cases ok with
 |true=>
  go_wp2_with fail;go_ret;refine⟨rfl,by simpa using HS2.o.setText r,(Cd Hb2.o _).trans (Ai _ _ _ _)⟩
 |false=>
  go_wp2_with fail;go_ret;refine⟨rfl,by simpa using(HS2.o.setBad true).setText r,((Cd Hb2.o _).trans (Ai _ _ _ _)).trans (Ai _ _ _ _)⟩
def Qoy(t:List UInt8)(bad:Bool)(b:Nat)(p:Value)(w:World)(e:Ending)(w':World):Prop:=
 ∃(x t':List UInt8) (bad':Bool),e=.returned x/\D2 w b p t' bad' w'/\(if bad then none else Nq t)=(if bad' then none else some (x,t'))/\x.length+t'.length<=t.length
theorem Qz{c:UInt8}{t:List UInt8}:((As c t).getD t).length<=t.length:=by
 cases h:As c t with
 |none=>exact Al _
 |some r=>rw[Cs]at h;subst h;simp
theorem Cp(c:UInt8)(t:List UInt8)(bad:Bool):Bg [c] t bad=if bad then none else As c t:=by unfold Bg;rw[Qjv]
theorem Qfm(t t1 t3:List UInt8)(bad b1 b2 b3:Bool)(h1:t1=(Bg [39] t bad).getD t)(hb1:b1=(Bg [39] t bad).isNone)(h3:t3=(Bg [39] (t1.dropWhile Cn) b1).getD (t1.dropWhile Cn))(hb2:b2=(Bg [39] (t1.dropWhile Cn) b1).isNone)
  (hb3:b3=(b2 || decide (12<(t1.takeWhile Cn).length))):
  (if bad then none else Nq t)=(if b3 then none else some (t1.takeWhile Cn,t3))/\(t1.takeWhile Cn).length+t3.length<=t.length:=by
 have e:(t1.takeWhile Cn).length+(t1.dropWhile Cn).length=t1.length:=by rw[<-ah,List.takeWhile_append_dropWhile]
 rw[Cp]at h1 hb1 h3 hb2;subst h1 hb1 h3 hb2 hb3;constructor
 ·cases bad with
  |true=>simp
  |false=>
   unfold Nq;simp only[an,if_false];cases As 39 t with
   |none=>simp
   |some r=>
    simp only[Option.getD_some,Option.isNone_some,an,if_false];cases As 39 (r.dropWhile Cn)with
    |none=>simp
    |some q=>
     simp only[Option.getD_some,Option.isNone_some,Bool.false_or,decide_eq_true_eq];by_cases h:(r.takeWhile Cn).length<=12
     ·rw[if_pos h,if_neg aI]
     rw[if_neg h,if_pos aI]
 have k1:((if bad=true then none else As 39 t).getD t).length<=t.length:=by cases bad;exact Qz;exact Al _
 generalize (if bad=true then none else As 39 t)=o at *;have k2:((if o.isNone=true then none else As 39 ((o.getD t).dropWhile Cn)).getD ((o.getD t).dropWhile Cn)).length<=((o.getD t).dropWhile Cn).length:=by cases o.isNone;exact Qz;exact Al _
 omega
theorem Qg4(b:Nat)(p:Value)(t:List UInt8)(bad:Bool)(w:World)(h:G0 w b p t bad)(hl:t.length<=4000000):
  Calls prog 142 #[b] w (Qoy t bad b p w):=by
 have Hq:=Aa (Qfm t);have Hw1:=Aa (fun W (h:G0 W b p t bad)=>Dx b p t [39] bad W h hl);have hk1:((Bg [39] t bad).getD t).length<=t.length:=ff;have HS:=Aa h;clear h;obtain⟨t1,ht1⟩:∃t1,t1=(Bg [39] t bad).getD t:=⟨_,rfl⟩
 obtain⟨b1,hb1⟩:∃b1,b1=(Bg [39] t bad).isNone:=⟨_,rfl⟩
 rw[<-ht1]at hk1;have Hq:=Aa (fun t3 b2 b3=>Hq.o t1 t3 bad b1 b2 b3 ht1 hb1);rw[<-ht1,<-hb1]at Hw1;clear ht1 hb1;have Htl:=Aa (fun W=>Pg t1 Qgw W aL aL);simp only[Qkt]at Htl;unfold Qgw at Htl;obtain⟨htk,hdl⟩:=S5 Cn t1;have Htk:=Aa htk;have Hw2:=Aa (fun W (h:G0 W b p (t1.dropWhile Cn) b1)=>Dx b p (t1.dropWhile Cn) [39] b1 W h aI);clear htk;go_enter func142,ntmps142;go_wp2_with fail;refine(Hw1.o _ HS.o).mono ?_;rintro e w1 ⟨rfl,hs1,hg1⟩;have HS1:=Aa hs1;have Hg1:=Aa hg1;obtain⟨z1,_,_,c1,_⟩:=hs1;clear hg1;go_wp2_with fail;refine(Htl.o _).mono ?_;rintro e w2 ⟨rfl,hb2⟩;have HS2:=Aa (HS1.o.grow hb2);have Hg2:=Aa (Hg1.o.trans (Cd hb2 _));have C2:=Aa HS2.o.2.2.2.1;have hz2:b<w2.heap.size:=HS2.o.1;clear hb2 c1 z1;have kw:IntKind.i64.wrap ((t1.length:Int) - ((t1.dropWhile Cn).length:Int))=(t1.length:Int) - ((t1.dropWhile Cn).length:Int):=IntWalk.i64_in _ aI;have k1:(0:Int)<=(t1.length:Int) - ((t1.dropWhile Cn).length:Int):=aI;have k2:(t1.length:Int) - ((t1.dropWhile Cn).length:Int)<=(t1.length:Int):=aI;have k3:((t1.length:Int) - ((t1.dropWhile Cn).length:Int)).toNat=t1.length - (t1.dropWhile Cn).length:=aI;obtain⟨a,ha⟩:∃a,a=t1.takeWhile Cn:=⟨_,rfl⟩
 obtain⟨r,hr⟩:∃r,r=t1.dropWhile Cn:=⟨_,rfl⟩
 rw[<-ha]at Htk;rw[<-hr]at Htk Hw2 hdl kw k1 k2 k3;simp only[<-hr];have Hq:=Aa (fun t3 b2 b3=>Hq.o t3 b2 b3);simp only[<-hr,<-ha]at Hq;clear ha hr;go_wp2_with fail;refine Xa [12,13,14,15,16,17,18,19,20,21,22,23,24,4]
  (fun ix v W=>match ix with|0=>v=b|1=>v=b|2=>v=(b,1)|3=>v=.string ⟨t1.toArray⟩|4=>v=b|5=>v=b|6=>v=(b,1)|7=>v=.string ⟨t1.toArray⟩|8=>v=(t1.length:Int)|9=>v=.string ⟨r.toArray⟩|10=>v=(r.length:Int)|11=>v=.int .i64 ((t1.length:Int) - (r.length:Int))|12=>v=.string ⟨a.toArray⟩|13=>v=.string ⟨a.toArray⟩|_=>True)
  (fun L U W=>∃k,W=w2.drewN k) (⟨1,rfl⟩) ?_ ?_
 ·repeat (first|exact Bb.nil|(refine Bb.cons ?_ ?_;rotate_left))
  all_goals
   rintro L U W hL hpre HR Hdep K hK;obtain⟨k,hk⟩:=HR.o;have c1:W.cell? (b,1)=some (.string ⟨t1.toArray⟩):=by rw[hk];exact C2.o
   clear hk;first|(simp[Region.binds]at hpre;done)|simp[Region.binds]at hpre|clear hpre
  iterate 11
   ·exact fP
  ·exact ic
  ·exact hC
  ·exact fP
 rintro L U W hL hφ hR;have e13:U 13=.string ⟨a.toArray⟩:=hφ 13 aL;simp only[e13];clear hφ;obtain⟨k,rfl⟩:=hR;clear hL;have HS3:=Aa (HS2.o.drew k);have Hg3:=Aa (Hg2.o.trans (Cd (below_drewN (Aq _ _) k) _));have hf1:=HS3.o.2.1.live 1;have q0:=HS3.o.1;have j2:=HS3.o.2.2.2.1;have j3:=HS3.o.2.2.2.2;go_wp2_with fail;refine(Hw2.o _ (HS3.o.setText r)).mono ?_;rintro e w4 ⟨rfl,hs4,hg4⟩;have HS4:=Aa hs4;have Hg4:=Aa ((Hg3.o.trans (Ai _ _ _ _)).trans hg4);clear hg4 hs4 j2 j3 hf1 q0;have Hq4:=Aa (fun b3=>Hq.o _ _ b3 rfl rfl);generalize (Bg [39] r b1).getD r=t3 at *;generalize (Bg [39] r b1).isNone=b2 at *;have hf2:=HS4.o.2.1.live 2;have q0:=HS4.o.1;have k3:=HS4.o.2.2.2.2;by_cases hlen:a.length<=12
 ·have t1:decide ((12:Int)<(a.length:Int))=false:=aO;go_wp2_with fail;go_ret;obtain⟨h1,h2⟩:=Hq4.o b2 aO;exact⟨a,t3,b2,rfl,⟨HS4.o,Hg4.o⟩,h1,h2⟩
 have t1:decide ((12:Int)<(a.length:Int))=true:=aO;go_wp2_with fail;go_ret;obtain⟨h1,h2⟩:=Hq4.o true aO;exact⟨a,t3,true,rfl,⟨HS4.o.setBad true,Hg4.o.trans (Ai _ _ _ _)⟩,h1,h2⟩
end
end Go.Proofs.YtmmhmlmfhpfgbaaGreatDoor
