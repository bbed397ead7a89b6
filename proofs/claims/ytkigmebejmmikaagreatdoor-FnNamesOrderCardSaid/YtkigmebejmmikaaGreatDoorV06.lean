/- Texts joined. Conditions: as each theorem names them. -/
import Derived.Deep.RegionWith
import Derived.Laws.Rows
import Derived.BigRegion
import Derived.BigQuiet
import Derived.Deep.QuietTactic
import Derived.Deep.MidRow
import Derived.Test.YtkigmebejmmikaaGreatDoorV05
import Derived.Test.YtkigmebejmmikaaGreatDoorV12
set_option maxRecDepth 100000
set_option maxHeartbeats 32000000
set_option linter.unusedVariables false
set_option linter.unusedSimpArgs false
namespace Go.Proofs.YtkigmebejmmikaaGreatDoor
open Go.RowKit Go.Proofs.Tryz
section
attribute [local go_sem] Qo1 Qof Qnv Qlx ByteArray.mk_append_mk
def Ey(k:Kd):Value:=.agg #[k.signs,k.base,k.name]
def Kh(o:Option Kd)(w:World)(e:Ending)(w':World):Prop:=
 (match o with
  |some k=>e=.returned (.tuple #[Ey k,.bool true])
  |none=>∃(a b c:ByteArray),e=.returned (.tuple #[.agg #[.string a,.string b,.string c],.bool false]))/\Below w w w'
theorem Kh.no{w w':World}{e:Ending}{o:Option Kd}(ho:o=none){a b c:ByteArray}(he:e=.returned (.tuple #[.agg #[.string a,.string b,.string c],.bool false]))(hb:Below w w w'):Kh o w e w':=by
 rw[ho];exact⟨⟨a,b,c,he⟩,hb⟩
theorem Kh.yes{w w':World}{e:Ending}{o:Option Kd}{k:Kd}(ho:o=some k)(he:e=.returned (.tuple #[Ey k,.bool true]))(hb:Below w w w'):Kh o w e w':=by
 rw[ho];exact⟨he,hb⟩
theorem Qk4(c:UInt8):([91,63]:List UInt8).contains c=Bo c:=by
 have:=Rc (p:=fun c=>([91,63]:List UInt8).contains c == Bo c) ge c;simpa using this
theorem Qih(s:List UInt8):s.dropWhile (([91,63]:List UInt8).contains ·)=s.dropWhile Bo:=by
 congr 1;funext c;exact Qk4 c
theorem Rs(r:List UInt8)(c:UInt8):Lib.hasSuffix r [c]=decide (r.getLast?=some c):=by
 rcases Fw r with rfl|⟨t,d,rfl⟩
 ·rfl
 unfold Lib.hasSuffix List.isSuffixOf;rw[List.reverse_append,List.getLast?_append];by_cases h:c=d
 ·subst h;simp[List.isPrefixOf]
 have h':d≠c:=fun e=>h e.symm;simp[List.isPrefixOf,h,h']
theorem Qdl(s:List UInt8)(h:s.length<=12):∃g r,s=g++r/\s.dropWhile Bo=r /\
  ((∃b,(b=110\/b=116\/b=102)/\r=[b]/\C4 s=some ⟨g,r,[]⟩) \/
   (∃nm,r=64::(nm++[59])/\C4 s=if Bf nm=true then some ⟨g,[64],nm⟩else none) \/
   ((r == [110])=false/\(r == [116])=false/\(r == [102])=false/\(r.head?≠some 64\/(r.head?=some 64/\r.getLast?≠some 59))/\C4 s=none)):=by
 refine⟨s.takeWhile Bo,s.dropWhile Bo,List.takeWhile_append_dropWhile.symm,rfl,?_⟩;unfold C4;rw[if_neg aG];by_cases h1:s.dropWhile Bo=[110]\/s.dropWhile Bo=[116]\/s.dropWhile Bo=[102]
 ·left;rw[if_pos h1];rcases h1 with h|h|h
  ·exact⟨110,by simp,h,rfl⟩
  ·exact⟨116,by simp,h,rfl⟩
  exact⟨102,by simp,h,rfl⟩
 right;rw[if_neg h1];simp only[not_or]at h1;by_cases h2:(s.dropWhile Bo).head?=some 64
 ·by_cases h3:(s.dropWhile Bo).getLast?=some 59
  ·left;have e:=Qhg h2 h3;refine⟨((s.dropWhile Bo).drop 1).dropLast,e,?_⟩;by_cases h4:Bf ((s.dropWhile Bo).drop 1).dropLast=true
   ·rw[if_pos ⟨h2,h3,h4⟩,if_pos h4]
   rw[if_neg (fun h=>h4 h.2.2),if_neg h4]
  right;refine⟨by simpa using h1.1,by simpa using h1.2.1,by simpa using h1.2.2,.inr ⟨h2,h3⟩,?_⟩;rw[if_neg (fun h=>h3 h.2.1)]
 right;refine⟨by simpa using h1.1,by simpa using h1.2.1,by simpa using h1.2.2,.inl h2,?_⟩;rw[if_neg (fun h=>h2 h.1)]
theorem S7(s:List UInt8)(w:World)(hs:s.length<=4000000):
  Calls prog 53 #[s] w (Kh (C4 s) w):=by
 rcases aF 12 s.length with h12|h12
 ·have Hn:=Aa (show C4 s=none by unfold C4;rw[if_pos h12]);go_enter func53,ntmps53;go_wp2_with fail;refine aE (v:=.tuple #[.agg #[aa,aa,aa],.bool false]) (by simp[results,results53,go_sem]) rfl ?_;exact Kh.no Hn.o rfl ((Aw _ _).alloc (Ar _) _)
 obtain⟨g,r,hsr,hr,hcase⟩:=Qdl s h12;have hT:=fun W=>Mk s [91,63] W aJ aJ;simp only[Qih,hr]at hT;have HT:=Aa hT;have hl:s.length=g.length+r.length:=by rw[hsr];simp
 have Htk:=Aa (show s.take (s.length - r.length)=g by rw[hl,hsr];simp);have k1:(0:Int)<=(s.length:Int) - (r.length:Int):=aG;have k2:(s.length:Int) - (r.length:Int)<=(s.length:Int):=aG;have k3:((s.length:Int) - (r.length:Int)).toNat=s.length - r.length:=aG;have hr12:r.length<=12:=aG;have hl1:r.length<=s.length:=aG;clear hT hr hl hsr;rcases hcase with⟨b,hb,rfl,hk⟩|⟨nm,rfl,hk⟩|⟨q1,q2,q3,hh,hk⟩
 ·have h1:1<=s.length:=by simp at hl1;omega
  have Hg:=Aa (show s.take (s.length - 1)=g by simpa using Htk.o);have Hk:=Aa hk;clear hk k1 k2 k3;rcases hb with rfl|rfl|rfl
  ·go_enter func53,ntmps53;go_wp2_with fail;refine(HT.o _).mono ?_;rintro e w1 ⟨rfl,hb⟩;obtain⟨hc,hfz,hz⟩:=Ck hb;have hzz:=hz w.heap.size aL;have hn1:¬(w1.heap.size=w.heap.size):=aG;have hn2:¬(w.heap.size=w1.heap.size):=aG;have Hb:=Aa (((Aw w.heap.size w).alloc (Ar _) _).trans (hb.mono aL));have u0:w1.cell? (w,0)=aa:=ie;have u1:w1.cell? (w,1)=aa:=ig;have u2:w1.cell? (w,2)=aa:=ii;have fu:∀j,w1.frozen? ⟨w.heap.size,j,none⟩=false:=fun j=>ia;clear hb hc hfz hz;go_wp2_with fail;refine aE (v:=.tuple #[.agg #[.string ⟨(s.take (s.length - 1)).toArray⟩,.string ⟨#[110]⟩,aa],.bool true]) (by simp[results,results53,go_sem,u0,u1,u2,fu,hn1,hn2,hzz]) rfl ?_;exact Kh.yes Hk.o gA aW
  ·go_enter func53,ntmps53;go_wp2_with fail;refine(HT.o _).mono ?_;rintro e w1 ⟨rfl,hb⟩;obtain⟨hc,hfz,hz⟩:=Ck hb;have hzz:=hz w.heap.size aL;have hn1:¬(w1.heap.size=w.heap.size):=aG;have hn2:¬(w.heap.size=w1.heap.size):=aG;have Hb:=Aa (((Aw w.heap.size w).alloc (Ar _) _).trans (hb.mono aL));have u0:w1.cell? (w,0)=aa:=ie;have u1:w1.cell? (w,1)=aa:=ig;have u2:w1.cell? (w,2)=aa:=ii;have fu:∀j,w1.frozen? ⟨w.heap.size,j,none⟩=false:=fun j=>ia;clear hb hc hfz hz;go_wp2_with fail;refine aE (v:=.tuple #[.agg #[.string ⟨(s.take (s.length - 1)).toArray⟩,.string ⟨#[116]⟩,aa],.bool true]) (by simp[results,results53,go_sem,u0,u1,u2,fu,hn1,hn2,hzz]) rfl ?_;exact Kh.yes Hk.o gA aW
  go_enter func53,ntmps53;go_wp2_with fail;refine(HT.o _).mono ?_;rintro e w1 ⟨rfl,hb⟩;obtain⟨hc,hfz,hz⟩:=Ck hb;have hzz:=hz w.heap.size aL;have hn1:¬(w1.heap.size=w.heap.size):=aG;have hn2:¬(w.heap.size=w1.heap.size):=aG;have Hb:=Aa (((Aw w.heap.size w).alloc (Ar _) _).trans (hb.mono aL));have u0:w1.cell? (w,0)=aa:=ie;have u1:w1.cell? (w,1)=aa:=ig;have u2:w1.cell? (w,2)=aa:=ii;have fu:∀j,w1.frozen? ⟨w.heap.size,j,none⟩=false:=fun j=>ia;clear hb hc hfz hz;go_wp2_with fail;refine aE (v:=.tuple #[.agg #[.string ⟨(s.take (s.length - 1)).toArray⟩,.string ⟨#[102]⟩,aa],.bool true]) (by simp[results,results53,go_sem,u0,u1,u2,fu,hn1,hn2,hzz]) rfl ?_;exact Kh.yes Hk.o gA aW
 ·have h1:nm.length+2<=s.length:=by simp at hl1;omega
  have Hg:=Aa (show s.take (s.length - (nm.length+1+1))=g by simpa using Htk.o);have hnl:nm.length<=12:=aG;have hmid:(nm++[59]).take nm.length=nm:=aL;have Hn:=Aa (fun W=>M4 nm W aG);have hp:([64]:List UInt8).isPrefixOf (64::(nm++[59]))=true:=rfl;have hs:Lib.hasSuffix (64::(nm++[59])) [59]=true:=by
   rw[Rs,show (64:UInt8)::(nm++[59])=(64::nm)++[59]from rfl,List.getLast?_append];rfl
  have Hp:=Aa (fun W=>Rx (64::(nm++[59])) [64] W);have Hs:=Aa (fun W=>Ru (64::(nm++[59])) [59] W aO);rw[hp]at Hp;rw[hs]at Hs;clear hp hs k1 k2 k3;rcases Bool.eq_false_or_eq_true (Bf nm)with hnm|hnm
  ·rw[if_pos hnm]at hk;rw[hnm]at Hn;have Hk:=Aa hk;clear hk hnm;go_enter func53,ntmps53;go_wp2_with fail;refine(HT.o _).mono ?_;rintro e w1 ⟨rfl,hb⟩;obtain⟨hc,hfz,hz⟩:=Ck hb;have hzz:=hz w.heap.size aL;have hn1:¬(w1.heap.size=w.heap.size):=aG;have hn2:¬(w.heap.size=w1.heap.size):=aG;have Hb:=Aa (((Aw w.heap.size w).alloc (Ar _) _).trans (hb.mono aL));have u0:w1.cell? (w,0)=aa:=ie;have u1:w1.cell? (w,1)=aa:=ig;have u2:w1.cell? (w,2)=aa:=ii;have fu:∀j,w1.frozen? ⟨w.heap.size,j,none⟩=false:=fun j=>ia;clear hb hc hfz hz;go_wp2_with fail;refine(Hp.o _).mono ?_;rintro e w2 ⟨rfl,rfl⟩;go_wp2_with fail;refine(Hs.o _).mono ?_;rintro e w2 ⟨rfl,rfl⟩;go_wp2_with fail;go_region_with (go_at_call 95;refine(Hn.o _).mono ?_;rintro e w' ⟨rfl,hb6⟩;obtain⟨hc6,hfz6,hz6⟩:=Ck hb6;have y0:w'.cell? (w,0)=aa:=fI;have y1:w'.cell? (w,1)=aa:=fJ;have y2:w'.cell? (w,2)=aa:=fK;have y6:=hz6 w.heap.size aO)
   all_goals
    go_wp2
    refine aE (v:=.tuple #[.agg #[.string ⟨(s.take (s.length - (nm.length+1+1))).toArray⟩,.string ⟨#[64]⟩,nm],.bool true]) (by simp[results,results53,go_sem,u0,u1,u2,fu,hn1,hn2,hzz,y0,y1,y2]) rfl ?_;exact Kh.yes Hk.o gA bN
  rw[if_neg (by rw[hnm];decide)]at hk;rw[hnm]at Hn;have Hk:=Aa hk;clear hk hnm;go_enter func53,ntmps53;go_wp2_with fail;refine(HT.o _).mono ?_;rintro e w1 ⟨rfl,hb⟩;obtain⟨hc,hfz,hz⟩:=Ck hb;have hzz:=hz w.heap.size aL;have hn1:¬(w1.heap.size=w.heap.size):=aG;have hn2:¬(w.heap.size=w1.heap.size):=aG;have Hb:=Aa (((Aw w.heap.size w).alloc (Ar _) _).trans (hb.mono aL));have u0:w1.cell? (w,0)=aa:=ie;have u1:w1.cell? (w,1)=aa:=ig;have u2:w1.cell? (w,2)=aa:=ii;have fu:∀j,w1.frozen? ⟨w.heap.size,j,none⟩=false:=fun j=>ia;clear hb hc hfz hz;go_wp2_with fail;refine(Hp.o _).mono ?_;rintro e w2 ⟨rfl,rfl⟩;go_wp2_with fail;refine(Hs.o _).mono ?_;rintro e w2 ⟨rfl,rfl⟩;go_wp2_with fail;go_region_with (go_at_call 95;refine(Hn.o _).mono ?_;rintro e w' ⟨rfl,hb6⟩;obtain⟨hc6,hfz6,hz6⟩:=Ck hb6;have y0:w'.cell? (w,0)=aa:=fI;have y1:w'.cell? (w,1)=aa:=fJ;have y2:w'.cell? (w,2)=aa:=fK;have y6:=hz6 w.heap.size aO)
  all_goals
   go_wp2
   refine aE (v:=.tuple #[.agg #[.string ⟨(s.take (s.length - (nm.length+1+1))).toArray⟩,.string ⟨#[64]⟩,nm],.bool false]) (by simp[results,results53,go_sem,u0,u1,u2,fu,hn1,hn2,hzz,y0,y1,y2]) rfl ?_;exact Kh.no Hk.o rfl bN
 have Hp:=Aa (fun W=>Rx r [64] W);have Hs:=Aa (fun W=>Ru r [59] W aG);have Hk:=Aa hk;have q1':¬(r=[110]):=by simpa using q1
 have q2':¬(r=[116]):=by simpa using q2
 have q3':¬(r=[102]):=by simpa using q3
 clear hk k1 k2 k3;rcases hh with hh|⟨hh,hl2⟩
 ·have hp:([64]:List UInt8).isPrefixOf r=false:=by
   cases r with
   |nil=>rfl
   |cons c r=>simp at hh;simp[List.isPrefixOf];exact fun e=>hh e.symm
  rw[hp]at Hp;clear hp hh;go_enter func53,ntmps53;go_wp2_with fail;refine(HT.o _).mono ?_;rintro e w1 ⟨rfl,hb⟩;obtain⟨hc,hfz,hz⟩:=Ck hb;have hzz:=hz w.heap.size aL;have hn1:¬(w1.heap.size=w.heap.size):=aG;have hn2:¬(w.heap.size=w1.heap.size):=aG;have Hb:=Aa (((Aw w.heap.size w).alloc (Ar _) _).trans (hb.mono aL));have u0:w1.cell? (w,0)=aa:=ie;have u1:w1.cell? (w,1)=aa:=ig;have u2:w1.cell? (w,2)=aa:=ii;have fu:∀j,w1.frozen? ⟨w.heap.size,j,none⟩=false:=fun j=>ia;clear hb hc hfz hz;go_wp2_with fail;refine(Hp.o _).mono ?_;rintro e w2 ⟨rfl,rfl⟩;go_wp2_with fail;refine aE (v:=.tuple #[.agg #[aa,aa,aa],.bool false]) (by simp[results,results53,go_sem,u0,u1,u2,fu,hn1,hn2,hzz]) rfl ?_;exact Kh.no Hk.o rfl aW
 have hp:([64]:List UInt8).isPrefixOf r=true:=by
  cases r with
  |nil=>simp at hh
  |cons c r=>simp at hh;subst hh;rfl
 have hs:Lib.hasSuffix r [59]=false:=by rw[Rs];simpa using hl2
 rw[hp]at Hp;rw[hs]at Hs;clear hp hs hh hl2;go_enter func53,ntmps53;go_wp2_with fail;refine(HT.o _).mono ?_;rintro e w1 ⟨rfl,hb⟩;obtain⟨hc,hfz,hz⟩:=Ck hb;have hzz:=hz w.heap.size aL;have hn1:¬(w1.heap.size=w.heap.size):=aG;have hn2:¬(w.heap.size=w1.heap.size):=aG;have Hb:=Aa (((Aw w.heap.size w).alloc (Ar _) _).trans (hb.mono aL));have u0:w1.cell? (w,0)=aa:=ie;have u1:w1.cell? (w,1)=aa:=ig;have u2:w1.cell? (w,2)=aa:=ii;have fu:∀j,w1.frozen? ⟨w.heap.size,j,none⟩=false:=fun j=>ia;clear hb hc hfz hz;go_wp2_with fail;refine(Hp.o _).mono ?_;rintro e w2 ⟨rfl,rfl⟩;go_wp2_with fail;refine(Hs.o _).mono ?_;rintro e w2 ⟨rfl,rfl⟩;go_wp2_with fail;refine aE (v:=.tuple #[.agg #[aa,aa,aa],.bool false]) (by simp[results,results53,go_sem,u0,u1,u2,fu,hn1,hn2,hzz]) rfl ?_;exact Kh.no Hk.o rfl aW
end
def Sp(f:Fd):List Value:=[(f.tag:Int),f.name,f.kind.signs,f.kind.base,f.kind.name,f.given]
def ifV(f:Fd):Value:=.agg #[(f.tag:Int),f.name,f.kind.signs,f.kind.base,f.kind.name,f.given]
theorem Qgu(f:Fd):(Sp f).length=6:=rfl
def Sx(w:World)(v:Value)(fs:List Fd):Prop:=∃A c,v=.slice A fs.length c/\fs.length<=8/\Bh w A (fs.length*6) (fs.flatMap Sp)
theorem Sx.below{w w':World}{v:Value}{fs:List Fd}(h:Sx w v fs)(hb:Below w w w'):Sx w' v fs:=by
 exact kG
theorem Sx.at_{w:World}{A:Option Addr}{fs:List Fd}(hr:Bh w A (fs.length*6) (fs.flatMap Sp)){i:Nat}(hi:i<fs.length):
  ∃b off,A=some ⟨b,off,none⟩/\b<w.heap.size/\w.cell? ⟨b,off+i*6,none⟩=some (.int .i64 (fs[i].tag:Int))/\w.cell? ⟨b,off+i*6+1,none⟩=some (.string ⟨fs[i].name.toArray⟩) /\
   w.cell? ⟨b,off+i*6+2,none⟩=some (.string ⟨fs[i].kind.signs.toArray⟩)/\w.cell? ⟨b,off+i*6+3,none⟩=some (.string ⟨fs[i].kind.base.toArray⟩) /\
   w.cell? ⟨b,off+i*6+4,none⟩=some (.string ⟨fs[i].kind.name.toArray⟩)/\w.cell? ⟨b,off+i*6+5,none⟩=some (.string ⟨fs[i].given.toArray⟩):=by
 obtain⟨b,off,e,hlt,hc⟩:=hr.elem Qgu aJ hi;refine⟨b,off,e,hlt,?_,?_,?_,?_,?_,?_⟩
 ·exact jW
 ·exact jF
 ·exact jO
 ·have:=hc 3 _ rfl;simpa [Nat.add_assoc]using this
 ·have:=hc 4 _ rfl;simpa [Nat.add_assoc]using this
 have:=hc 5 _ rfl;simpa [Nat.add_assoc]using this
structure PT where
 ty:Ty
 blk:Nat
 fv:Value
def Pi(w:World)(b:Nat):Prop:=∃cs t,w.heap[b]?=some (.cells cs t (0,0))
theorem Pi.belowAt{B:Nat}{w w':World}{b:Nat}(h:Pi w b)(hb:b<B)(hw:Below B w w'):Pi w' b:=by
 obtain⟨cs,t,h⟩:=h;exact⟨cs,t,(hw.block b hb).trans h⟩
theorem Pi.grown{w w':World}{b:Nat}{row:Option Nat}(h:Pi w b)(hb:b<w.heap.size)(hg:w.grownBy w' row)(hne:some b≠row):Pi w' b:=by
 obtain⟨cs,t,h⟩:=h;exact⟨cs,t,(hg.block b hb hne).trans h⟩
theorem Pi.set{w:World}{b o:Nat}(h:Pi w b)(v:Value):Pi (w.setCell ⟨b,o,none⟩ v) b:=by
 obtain⟨cs,t,h⟩:=h;exact⟨_,t,heap_setCell_same w b o cs t v h⟩
theorem Pi.new(w:World)(cs:Array Value)(t:TypeId):Pi (w.alloc (.cells cs t)) w.heap.size:=⟨cs,t,heap_alloc_new w _⟩
def PT.ptr(x:PT):Value:=x.blk
def Sv(w:World)(x:PT):Prop:=
 x.blk<w.heap.size/\Pi w x.blk/\w.cell? (x.blk,0)=some (.int .u8 (x.ty.sort.toNat:Int))/\w.cell? (x.blk,1)=x.ty.name/\w.cell? (x.blk,2)=some x.fv/\w.cell? (x.blk,3)=some (.string ⟨(tyB x.ty).toArray⟩)/\Sx w x.fv x.ty.fields
theorem Sv.below{w w':World}{x:PT}(h:Sv w x)(hb:Below w w w'):Sv w' x:=by
 obtain⟨h0,hk,h1,h2,h3,h4,h5⟩:=h;obtain⟨hc,_,hz⟩:=Ck hb;exact⟨hz _ h0,hk.belowAt h0 hb,(hc _ _ h0).trans h1,(hc _ _ h0).trans h2,(hc _ _ h0).trans h3,(hc _ _ h0).trans h4,h5.below hb⟩
def Af(xs:List PT):List Ty:=xs.map (·.ty)
def Fi(xs:List PT)(n:Df):Option PT:=xs.find? fun x=>decide (x.ty.name=n)
theorem Jp(xs:List PT)(n:Df):B6 (Af xs) n=(Fi xs n).map (·.ty):=by
 unfold B6 Af Fi;rw[List.find?_map];rfl
theorem Dz{xs:List PT}{n:Df}{x:PT}(h:Fi xs n=some x):x∈xs/\x.ty.name=n/\B6 (Af xs) n=some x.ty:=by
 refine⟨List.mem_of_find?_eq_some h,?_,by rw[Jp,h];rfl⟩;have:=List.find?_some h;simpa using this
def Rp:Option PT->Value
 |some x=>x.ptr
 |none=>.pointer none
def Yp(xs:List PT)(l:Lit):Value:=match l with|.string s=>Rp (Fi xs s)|_=>.pointer none
theorem Tryz.keyStr:Go.Maps.Keyed prog 9:=Go.Maps.string_keyed underlying9
theorem Tryz.zeroPtr(w:World):(zeroValue 76).run prog w=.ok (.pointer none) w:=aM
def Qv(w:World)(mb:Nat)(xs:List PT):Prop:=Ed prog 9 (.pointer none) w mb xs.length (Yp xs)
def Q7(w:World)(p:Value)(xs:List PT):Prop:=
 ∃b A c mb,p=.pointer (some ⟨b,0,none⟩)/\b<w.heap.size/\w.cell? ⟨b,0,none⟩=some (.slice A xs.length c)/\w.cell? ⟨b,1,none⟩=some (.map (some mb))/\Bh w A xs.length (xs.map (·.ptr))/\Qv w mb xs/\(∀x∈xs,Sv w x)/\xs.Pairwise fun x y=>x.blk≠y.blk
theorem Q7.below{w w':World}{p:Value}{xs:List PT}(h:Q7 w p xs)(hb:Below w w w'):Q7 w' p xs:=by
 obtain⟨b,A,c,mb,e,h0,h1,h2,h3,h4,h5,h6⟩:=h;obtain⟨hc,_,hz⟩:=Ck hb;exact⟨b,A,c,mb,e,hz _ h0,(hc _ _ h0).trans h1,(hc _ _ h0).trans h2,h3.below hb,Ed.below h4 hb,fun x hx=>(h5 x hx).below hb,h6⟩
theorem Qg0{n:Df}(h:n.length<=9223372036854775807):keyOf prog 9 n=some (.string n):=by
 have:=Go.WideMaps.keyOf_string_mk (P:=prog) (k:=9) underlying9 (s:=⟨n.toArray⟩) (by unfold maxLen;exact h);simpa using this
def Em(o:Option Fd)(w:World)(e:Ending)(w':World):Prop:=
 (match o with
  |some f=>e=.returned (.tuple #[ifV f,.bool true])
  |none=>∃(n:Int) (a b c d g:ByteArray),e=.returned (.tuple #[.agg #[.int .i64 n,.string a,.string b,.string c,.string d,.string g],.bool false]))/\Below w w w'
theorem Em.no{w w':World}{e:Ending}{o:Option Fd}(ho:o=none){n:Int}{a b c d g:ByteArray}(he:e=.returned (.tuple #[.agg #[.int .i64 n,.string a,.string b,.string c,.string d,.string g],.bool false]))(hb:Below w w w'):Em o w e w':=by
 rw[ho];exact⟨⟨n,a,b,c,d,g,he⟩,hb⟩
theorem Em.yes{w w':World}{e:Ending}{o:Option Fd}{f:Fd}(ho:o=some f)(he:e=.returned (.tuple #[ifV f,.bool true]))(hb:Below w w w'):Em o w e w':=by
 rw[ho];exact⟨he,hb⟩
def Dl(x:Vl × Value):List Value:=[.int .u8 (x.1.what.toNat:Int),x.1.text,(x.1.tag:Int),x.2]
def Gy(v:Vl)(sl:Value):Value:=.agg #[.int .u8 (v.what.toNat:Int),v.text,(v.tag:Int),sl]
theorem Pt(x:Vl × Value):(Dl x).length=4:=rfl
def As(xs:List (Vl × Value)):List Vl:=xs.map (·.1)
inductive Dt(P:Nat->Prop)(w:World):Value->List Vl->Prop
 |mk {v:Value} {ks:List Vl} (A:Option Addr) (c:Nat) (xs:List (Vl × Value)) (hv:v=.slice A xs.length c) (hk:ks=As xs) (hl:xs.length<=1000) (hr:Bh w A (xs.length*4) (xs.flatMap Dl))
   (hP:∀g o,0<xs.length->A=some ⟨g,o,none⟩->P g) (h:∀x∈xs,Dt P w x.2 x.1.kids):Dt P w v ks
theorem Dt.kept{P Q:Nat->Prop}{w w':World}{v:Value}{ks:List Vl}(h:Dt P w v ks)(hc:∀b o u,P b->b<w.heap.size->w.cell? ⟨b,o,none⟩=some u->w'.cell? ⟨b,o,none⟩=some u)
  (hz:w.heap.size<=w'.heap.size) (hQ:∀b,P b->b<w.heap.size->Q b):Dt Q w' v ks:=by
 induction h with
 |mk A c xs hv hk hl hr hP h ih=>
  refine .mk A c xs hv hk hl ⟨hr.1,hr.2.1,fun hn=>?_⟩ (fun g o hn e=>?_) ih
  ·obtain⟨b,off,e,hlt,hcs⟩:=hr.2.2 hn;exact⟨b,off,e,by omega,fun j u hu=>hc b _ u (hP b off aG e) hlt (hcs j u hu)⟩
  obtain⟨b,off,e2,hlt,_⟩:=hr.2.2 aG;rw[e]at e2;injection e2 with e2;injection e2 with e2 _ _;subst e2;exact hQ g (hP g o hn e) hlt
theorem Dt.after{P:Nat->Prop}{w w':World}{v:Value}{ks:List Vl}(h:Dt P w v ks)(hb:Below w w w'):Dt P w' v ks:=
 h.kept (fun b o u _ hl hu=>(hb.cell (p:=⟨b,o,none⟩) hl).trans hu) hb.size fun _ h _=>h
theorem Dt.mono{P Q:Nat->Prop}{w:World}{v:Value}{ks:List Vl}(h:Dt P w v ks)(hQ:∀b,P b->b<w.heap.size->Q b):Dt Q w v ks:=h.kept (fun _ _ _ _ _ hu=>hu) (Ar _) hQ
theorem Dt.grown{P:Nat->Prop}{w w':World}{v:Value}{ks:List Vl}{row:Option Nat}(h:Dt P w v ks)(hg:w.grownBy w' row)(hne:∀b,P b->some b≠row):Dt P w' v ks:=
 h.kept (fun b o u hp _ hu=>hg.cell hu (hne b hp)) hg.size fun _ h _=>h
theorem Dt.nil(P:Nat->Prop)(w:World):Dt P w (.slice none 0 0) []:=.mk none 0 [] rfl rfl aL ⟨rfl,ag _,fun h=>absurd h aL⟩ (fun _ _ h=>absurd h aL) aL
theorem Dt.form{P:Nat->Prop}{w:World}{v:Value}{ks:List Vl}(h:Dt P w v ks):∃A c,v=.slice A ks.length c:=by
 obtain⟨A,c,xs,rfl,rfl,_,_,_,_⟩:=h;exact⟨A,c,by simp[As]⟩
theorem Dt.at_{w:World}{A:Option Addr}{xs:List (Vl × Value)}(hr:Bh w A (xs.length*4) (xs.flatMap Dl)){i:Nat}(hi:i<xs.length):
  ∃b off,A=some ⟨b,off,none⟩/\b<w.heap.size/\w.cell? ⟨b,off+i*4,none⟩=some (.int .u8 (xs[i].1.what.toNat:Int))/\w.cell? ⟨b,off+i*4+1,none⟩=some (.string ⟨xs[i].1.text.toArray⟩) /\
   w.cell? ⟨b,off+i*4+2,none⟩=some (.int .i64 (xs[i].1.tag:Int))/\w.cell? ⟨b,off+i*4+3,none⟩=some xs[i].2:=by
 obtain⟨b,off,e,hlt,hc⟩:=hr.elem Pt aJ hi;refine⟨b,off,e,hlt,?_,?_,?_,?_⟩
 ·exact jW
 ·exact jF
 ·exact jO
 have:=hc 3 _ rfl;simpa [Nat.add_assoc]using this
section
attribute [local go_sem] Qo1 Qof Qnv Qlx ByteArray.mk_append_mk
def D9(w:World)(b:Nat)(p:Value)(t:List UInt8)(bad:Bool):Prop:=b<w.heap.size/\Pi w b/\w.cell? (b,0)=some p/\w.cell? (b,1)=t/\w.cell? (b,2)=some (.bool bad)
theorem Pi.live{w:World}{b:Nat}(h:Pi w b)(o:Nat):w.frozen? ⟨b,o,none⟩=false:=by
 obtain⟨cs,t,h⟩:=h;simp[World.frozen?,h]
theorem D9.far{w w':World}{b:Nat}{p:Value}{t:List UInt8}{bad:Bool}(h:D9 w b p t bad){B:Nat}(hb:Below B w w')(hB:b<B):D9 w' b p t bad:=by
 obtain⟨h0,h1,h2,h3,h4⟩:=h;exact⟨ac h0 hb.size,h1.belowAt hB hb,(hb.cell (p:=⟨b,0,none⟩) hB).trans h2,(hb.cell (p:=⟨b,1,none⟩) hB).trans h3,(hb.cell (p:=⟨b,2,none⟩) hB).trans h4⟩
theorem D9.drew{w:World}{b:Nat}{p:Value}{t:List UInt8}{bad:Bool}(h:D9 w b p t bad)(k:Nat):D9 (w.drewN k) b p t bad:=h.far (below_drewN (Aw w.heap.size w) k) h.1
theorem D9.setBad{w:World}{b:Nat}{p:Value}{t:List UInt8}{bad:Bool}(h:D9 w b p t bad)(x:Bool):D9 (w.setCell ⟨b,2,none⟩ (.bool x)) b p t x:=by
 obtain⟨h0,h1,h2,h3,h4⟩:=h;have hf:=h1.live 2;exact⟨by simpa using h0,h1.set _,by simp[go_sem,h2],by simp[go_sem,h3],by simp[go_sem,h4,hf]⟩
theorem D9.setText{w:World}{b:Nat}{p:Value}{t:List UInt8}{bad:Bool}(h:D9 w b p t bad)(x:List UInt8):D9 (w.setCell ⟨b,1,none⟩ x) b p x bad:=by
 obtain⟨h0,h1,h2,h3,h4⟩:=h;have hf:=h1.live 1;exact⟨by simpa using h0,h1.set _,by simp[go_sem,h2],by simp[go_sem,h3,hf],by simp[go_sem,h4]⟩
theorem Qf3(w:World)(a:Addr)(v:Value):w.grownBy (w.setCell a v) (some a.block):=
 ⟨rfl,rfl,rfl,by simp,fun k _ hk=>Go.heap_setCell_other _ _ _ _ (fun e=>hk (by rw[e]))⟩
theorem Al(w:World)(b o:Nat)(v:Value):w.grownBy (w.setCell ⟨b,o,none⟩ v) (some b):=Qf3 w ⟨b,o,none⟩ v
theorem En(b:Nat):∀(vs:List Value) (o:Nat) (w:World),w.grownBy (w.setCells b o vs) (some b)
 |[],_,w=>World.grownBy.refl _ _
 |v::r,o,w=>(Al w b o v).trans (En b r (o+1) _)
theorem Dc{w w':World}(h:Below w w w')(row:Option Nat):w.grownBy w' row:=⟨h.os,h.tape,h.output,h.size,fun k hk _=>h.block k hk⟩
theorem Qcx(p s:List UInt8):Ea p s=if p.isPrefixOf s=true then some (s.drop p.length)else none:=by
 by_cases h:p.isPrefixOf s=true
 ·rw[if_pos h];rw[List.isPrefixOf_iff_prefix]at h;obtain⟨t,rfl⟩:=h;rw[E9];simp
 rw[if_neg h];cases e:Ea p s with
 |none=>rfl
 |some r=>
  rw[E9]at e;subst e;exact absurd aL h
theorem Qia(c:UInt8)(s:List UInt8):Ea [c] s=Aj c s:=by
 unfold Ea;cases Aj c s<;>rfl
def cpV(s:List UInt8):Option (List UInt8)->Value
 |some r=>.tuple #[r,.bool true]
 |none=>.tuple #[s,.bool false]
theorem Zf(s p:List UInt8)(w:World)(hs:s.length<=4000000):
  Calls prog 129 #[s,p] w fun e w'=>e=.returned (cpV s (Ea p s))/\∃k,w'=w.drewN k:=by
 have HW:=Aa (Qcx p s);have Hp:=Aa (fun W=>Yt s p W);by_cases h:p.isPrefixOf s=true
 ·have HW2:=Aa (HW.o.trans (if_pos h));have hl:p.length<=s.length:=by rw[List.isPrefixOf_iff_prefix]at h;exact h.length_le
  have h1:(p.length:Int)<=(s.length:Int):=aG;have h2:(0:Int)<=(p.length:Int):=aG;rw[h]at Hp;clear h HW;go_enter func129,ntmps129;go_wp2_with fail;refine(Hp.o _).mono ?_;rintro e w1 ⟨rfl,rfl⟩;go_wp2_with fail;go_ret2;exact⟨by rw[HW2.o];rfl,0,rfl⟩
 have HW2:=Aa (HW.o.trans (if_neg h));have h':p.isPrefixOf s=false:=Bool.eq_false_iff.2 h;rw[h']at Hp;clear h h' HW;go_enter func129,ntmps129;go_wp2_with fail;refine(Hp.o _).mono ?_;rintro e w1 ⟨rfl,rfl⟩;go_wp2_with fail;go_ret2;exact⟨by rw[HW2.o];rfl,0,rfl⟩
theorem Qab(s p:List UInt8)(w:World)(hs:s.length<=4000000):
  Calls prog 96 #[s,p] w fun e w'=>e=.returned (cpV s (Ea p s))/\∃k,w'=w.drewN k:=by
 have Hp:=Aa (fun W=>Zf s p W hs);cases hw:Ea p s with
 |none=>
  rw[hw]at Hp;clear hw;go_enter func96,ntmps96;go_wp2_with fail;refine(Hp.o _).mono ?_;rintro e w1 ⟨rfl,k,rfl⟩;unfold cpV;go_wp2_with fail;go_ret2;exact⟨rfl,k,rfl⟩
 |some r=>
  rw[hw]at Hp;clear hw;go_enter func96,ntmps96;go_wp2_with fail;refine(Hp.o _).mono ?_;rintro e w1 ⟨rfl,k,rfl⟩;unfold cpV;go_wp2_with fail;go_ret2;exact⟨rfl,k,rfl⟩
def Dn(w:World)(b:Nat)(p:Value)(t:List UInt8)(bad:Bool)(w':World):Prop:=D9 w' b p t bad/\w.grownBy w' (some b)
def An(lead t:List UInt8)(bad:Bool):Option (List UInt8):=if bad then none else Ea lead t
theorem D8(b:Nat)(p:Value)(t lead:List UInt8)(bad:Bool)(w:World)(h:D9 w b p t bad)(hl:t.length<=4000000):
  Calls prog 56 #[b,lead] w fun e w'=>
   e=.returned (.bool (An lead t bad).isSome)/\Dn w b p ((An lead t bad).getD t) bad w':=by
 have Hp:=Aa (fun W=>Qab t lead W hl);have HT:=@Aa (An lead t bad=if bad then none else Ea lead t) rfl;have HS:=Aa h;obtain⟨h0,h1,h2,h3,h4⟩:=h;have hfz:=h1.live 1;clear h1;cases hw:Ea lead t with
 |none=>
  have HT2:=Aa (show An lead t bad=none by rw[HT.o,hw];cases bad<;>rfl);rw[hw]at Hp;clear hw HT;go_enter func56,ntmps56;go_wp2_with fail;refine(Hp.o _).mono ?_;rintro e w1 ⟨rfl,k,rfl⟩;unfold cpV;go_wp2_with fail;go_ret;exact⟨by rw[HT2.o];rfl,by rw[HT2.o];exact⟨HS.o.drew k,Dc (below_drewN (Aw _ _) k) _⟩⟩
 |some r=>
  rw[hw]at Hp;cases bad with
  |true=>
   have HT2:=@Aa (An lead t true=none) rfl;clear hw HT;go_enter func56,ntmps56;go_wp2_with fail;refine(Hp.o _).mono ?_;rintro e w1 ⟨rfl,k,rfl⟩;unfold cpV;go_wp2_with fail;go_ret;exact⟨by rw[HT2.o];rfl,by rw[HT2.o];exact⟨HS.o.drew k,Dc (below_drewN (Aw _ _) k) _⟩⟩
  |false=>
   have HT2:=@Aa (An lead t false=some r) (HT.o.trans hw);clear hw HT;go_enter func56,ntmps56;go_wp2_with fail;refine(Hp.o _).mono ?_;rintro e w1 ⟨rfl,k,rfl⟩;unfold cpV;go_wp2_with fail;go_ret;exact⟨by rw[HT2.o];rfl,by rw[HT2.o];exact⟨(HS.o.drew k).setText r,(Dc (below_drewN (Aw _ _) k) _).trans (Al _ _ _ _)⟩⟩
theorem Bn(b:Nat)(p:Value)(t lead:List UInt8)(bad:Bool)(w:World)(h:D9 w b p t bad)(hl:t.length<=4000000):
  Calls prog 55 #[b,lead] w fun e w'=>
   e=.returned (.tuple #[])/\Dn w b p ((An lead t bad).getD t) (An lead t bad).isNone w':=by
 have Hp:=Aa (D8 b p t lead bad w h hl);have HB:=Aa (show ∀r,An lead t bad=some r->bad=false by intro r h;cases bad;rfl;cases h);generalize An lead t bad=o at Hp HB ⊢;cases o with
 |some r=>
  obtain rfl:=HB.o r rfl;go_enter func55,ntmps55;go_wp2_with fail;refine Hp.o.mono ?_;rintro e w1 ⟨rfl,hs⟩;have HS:=Aa hs;clear hs;go_wp2_with fail;go_end0
  exact⟨rfl,HS.o⟩
 |none=>
  go_enter func55,ntmps55;go_wp2_with fail;refine Hp.o.mono ?_;rintro e w1 ⟨rfl,hs⟩;have HS:=Aa hs;obtain⟨⟨h0,h1,_,_,h4⟩,_⟩:=hs;have hfz:=h1.live 2;clear h1;go_wp2_with fail;go_end0
  exact⟨rfl,HS.o.1.setBad true,HS.o.2.trans (Al _ _ _ _)⟩
def Qj4:List UInt8:=[48,49,50,51,52,53,54,55,56,57]
theorem Qk5(c:UInt8):Qj4.contains c=Bm c:=by
 have:=Rc (p:=fun c=>Qj4.contains c == Bm c) ge c;simpa using this
theorem Qjy(s:List UInt8):s.dropWhile (Qj4.contains ·)=s.dropWhile Bm:=by congr 1;funext c;exact Qk5 c
theorem Qk9(s:List UInt8):s.dropWhile (Qgh.contains ·)=s.dropWhile Co:=by congr 1;funext c;exact Qdq c
theorem Qs(p:UInt8->Bool)(s:List UInt8):s.take (s.length - (s.dropWhile p).length)=s.takeWhile p/\(s.dropWhile p).length<=s.length:=by
 have e:s.takeWhile p++s.dropWhile p=s:=List.takeWhile_append_dropWhile;have hl:(s.takeWhile p).length+(s.dropWhile p).length=s.length:=by rw[<-ah,e]
 refine⟨?_,by omega⟩;conv=>lhs;arg 2;rw[<-e]
 rw[show s.length - (s.dropWhile p).length=(s.takeWhile p).length by omega,List.take_left]
def Kc(t:List UInt8):Nat:=(Cz (t.takeWhile Bm)).getD 0
def Jo(m:Nat)(t:List UInt8):Bool:=match Cz (t.takeWhile Bm)with|some n=>decide (n<=m)|none=>false
theorem Qmv(m:Nat)(t:List UInt8):pnV (t.takeWhile Bm) m=.tuple #[.int .i64 (Kc t:Int),.bool (Jo m t)]:=by
 unfold pnV Kc Jo;cases Cz (t.takeWhile Bm)<;>rfl
theorem D9.grow{w w':World}{b:Nat}{p:Value}{t:List UInt8}{bad:Bool}(h:D9 w b p t bad)(hb:Below w w w'):D9 w' b p t bad:=h.far hb h.1
theorem P9(b m:Nat)(p:Value)(t:List UInt8)(bad:Bool)(w:World)(h:D9 w b p t bad)(hl:t.length<=4000000)(hm:m<=999999):
  Calls prog 98 #[b,.int .i64 m] w fun e w'=>
   e=.returned (.int .i64 (Kc t:Int))/\Dn w b p (t.dropWhile Bm) (bad || !Jo m t) w':=by
 have Htl:=Aa (fun W=>Mk t Qj4 W aJ aJ);simp only[Qjy]at Htl;have Hpn:=Aa (fun W=>Jq (t.takeWhile Bm) m W (by have:=(Qs Bm t).1;have h2:=List.length_take_le (t.length - (t.dropWhile Bm).length) t;rw[this]at h2;omega) hm);rw[Qmv]at Hpn;obtain⟨htk,hdl⟩:=Qs Bm t;have Htk:=Aa htk;unfold Qj4 at Htl;have HS:=Aa h;have kw:IntKind.i64.wrap ((t.length:Int) - ((t.dropWhile Bm).length:Int))=(t.length:Int) - ((t.dropWhile Bm).length:Int):=IntWalk.i64_in _ aG;have k1:(0:Int)<=(t.length:Int) - ((t.dropWhile Bm).length:Int):=aG;have k2:(t.length:Int) - ((t.dropWhile Bm).length:Int)<=(t.length:Int):=aG;have k3:((t.length:Int) - ((t.dropWhile Bm).length:Int)).toNat=t.length - (t.dropWhile Bm).length:=aG;generalize Kc t=n at *;generalize Jo m t=ok at *;generalize t.takeWhile Bm=a at *;generalize t.dropWhile Bm=r at *;obtain⟨h0,h1,h2,h3,h4⟩:=h;clear htk h1;go_enter func98,ntmps98;go_wp2_with fail;refine(Htl.o _).mono ?_;rintro e w1 ⟨rfl,hb1⟩;have HS1:=Aa (HS.o.grow hb1);have Hb1:=Aa hb1;have C1:=Aa ((hb1.cell (p:=⟨b,1,none⟩) h0).trans h3);have hz1:b<w1.heap.size:=by have:=hb1.size;omega
 clear hb1 HS h2 h3 h4;go_wp2_with fail;refine Qr [14,15,16,17,18,19,20,21,22,23,24,25,26,27,28,13,29,30,6,7]
  (fun ix v W=>match ix with|0=>v=b|1=>v=b|2=>v=(b,1)|3=>v=t|4=>v=b|5=>v=b|6=>v=(b,1)|7=>v=t|8=>v=(t.length:Int)|9=>v=r|10=>v=(r.length:Int)|11=>v=.int .i64 ((t.length:Int) - (r.length:Int))|12=>v=a|13=>v=(m:Int)|14=>v=.tuple #[(n:Int),.bool ok]|15=>v=.tuple #[(n:Int),.bool ok]|16=>v=(n:Int)|17=>v=.bool ok|18=>v=(n:Int)|19=>v=.bool ok|_=>True)
  (fun L U W=>∃k,W=w1.drewN k) (⟨1,rfl⟩) ?_ ?_
 ·repeat (first|exact Av.nil|(refine Av.cons ?_ ?_;rotate_left))
  all_goals
   rintro L U W hL hpre HR Hdep K hK;obtain⟨k,hk⟩:=HR.o;have c1:W.cell? (b,1)=t:=by rw[hk];exact C1.o
   clear hk;first|(simp[Region.binds]at hpre;done)|simp[Region.binds]at hpre|clear hpre
  iterate 11
   ·exact ir
  ·exact kt
  ·exact jU
  ·exact ir
  ·go_simp;refine(Hpn.o W).mono ?_;rintro e w' ⟨rfl,rfl⟩;exact kF hK HR.o
  iterate 5
   ·exact ir
 rintro L U W hL hφ hR;have e18:U 18=(n:Int):=hφ 18 aJ;have e19:U 19=.bool ok:=hφ 19 aJ;simp only[e18,e19];clear hφ;obtain⟨k,rfl⟩:=hR;clear hL;have HS2:=Aa (HS1.o.drew k);have Hb2:=Aa (below_drewN Hb1.o k);obtain⟨q0,q1,_,_,_⟩:=HS2.o;have hf1:=q1.live 1;have hf2:=q1.live 2;clear q1;have j2:=HS2.o.2.2.2.1;have j3:=HS2.o.2.2.2.2;cases ok with
 |true=>
  go_wp2_with fail;go_ret;refine⟨rfl,by simpa using HS2.o.setText r,(Dc Hb2.o _).trans (Al _ _ _ _)⟩
 |false=>
  go_wp2_with fail;go_ret;refine⟨rfl,by simpa using(HS2.o.setBad true).setText r,((Dc Hb2.o _).trans (Al _ _ _ _)).trans (Al _ _ _ _)⟩
def Qn2(t:List UInt8)(bad:Bool)(b:Nat)(p:Value)(w:World)(e:Ending)(w':World):Prop:=
 ∃(x t':List UInt8) (bad':Bool),e=.returned x/\Dn w b p t' bad' w'/\(if bad then none else N0 t)=(if bad' then none else some (x,t'))/\x.length+t'.length<=t.length
theorem Q6{c:UInt8}{t:List UInt8}:((Aj c t).getD t).length<=t.length:=by
 cases h:Aj c t with
 |none=>exact Ar _
 |some r=>rw[Bl]at h;subst h;simp
theorem Bk(c:UInt8)(t:List UInt8)(bad:Bool):An [c] t bad=if bad then none else Aj c t:=by unfold An;rw[Qia]
theorem Qc8(t t1 t3:List UInt8)(bad b1 b2 b3:Bool)(h1:t1=(An [39] t bad).getD t)(hb1:b1=(An [39] t bad).isNone)(h3:t3=(An [39] (t1.dropWhile Co) b1).getD (t1.dropWhile Co))(hb2:b2=(An [39] (t1.dropWhile Co) b1).isNone)
  (hb3:b3=(b2 || decide (12<(t1.takeWhile Co).length))):
  (if bad then none else N0 t)=(if b3 then none else some (t1.takeWhile Co,t3))/\(t1.takeWhile Co).length+t3.length<=t.length:=by
 have e:(t1.takeWhile Co).length+(t1.dropWhile Co).length=t1.length:=by rw[<-ah,List.takeWhile_append_dropWhile]
 rw[Bk]at h1 hb1 h3 hb2;subst h1 hb1 h3 hb2 hb3;constructor
 ·cases bad with
  |true=>simp
  |false=>
   unfold N0;simp only[an,if_false];cases Aj 39 t with
   |none=>simp
   |some r=>
    simp only[Option.getD_some,Option.isNone_some,an,if_false];cases Aj 39 (r.dropWhile Co)with
    |none=>simp
    |some q=>
     simp only[Option.getD_some,Option.isNone_some,Bool.false_or,decide_eq_true_eq];by_cases h:(r.takeWhile Co).length<=12
     ·rw[if_pos h,if_neg aG]
     rw[if_neg h,if_pos aG]
 have k1:((if bad=true then none else Aj 39 t).getD t).length<=t.length:=by cases bad;exact Q6;exact Ar _
 generalize (if bad=true then none else Aj 39 t)=o at *;have k2:((if o.isNone=true then none else Aj 39 ((o.getD t).dropWhile Co)).getD ((o.getD t).dropWhile Co)).length<=((o.getD t).dropWhile Co).length:=by cases o.isNone;exact Q6;exact Ar _
 omega
theorem Qgb(b:Nat)(p:Value)(t:List UInt8)(bad:Bool)(w:World)(h:D9 w b p t bad)(hl:t.length<=4000000):
  Calls prog 99 #[b] w (Qn2 t bad b p w):=by
 have Hq:=Aa (Qc8 t);have Hw1:=Aa (fun W (h:D9 W b p t bad)=>Bn b p t [39] bad W h hl);have hk1:((An [39] t bad).getD t).length<=t.length:=gO;have HS:=Aa h;clear h;obtain⟨t1,ht1⟩:∃t1,t1=(An [39] t bad).getD t:=⟨_,rfl⟩
 obtain⟨b1,hb1⟩:∃b1,b1=(An [39] t bad).isNone:=⟨_,rfl⟩
 rw[<-ht1]at hk1;have Hq:=Aa (fun t3 b2 b3=>Hq.o t1 t3 bad b1 b2 b3 ht1 hb1);rw[<-ht1,<-hb1]at Hw1;clear ht1 hb1;have Htl:=Aa (fun W=>Mk t1 Qgh W aJ aJ);simp only[Qk9]at Htl;unfold Qgh at Htl;obtain⟨htk,hdl⟩:=Qs Co t1;have Htk:=Aa htk;have Hw2:=Aa (fun W (h:D9 W b p (t1.dropWhile Co) b1)=>Bn b p (t1.dropWhile Co) [39] b1 W h aG);clear htk;go_enter func99,ntmps99;go_wp2_with fail;refine(Hw1.o _ HS.o).mono ?_;rintro e w1 ⟨rfl,hs1,hg1⟩;have HS1:=Aa hs1;have Hg1:=Aa hg1;obtain⟨z1,_,_,c1,_⟩:=hs1;clear hg1;go_wp2_with fail;refine(Htl.o _).mono ?_;rintro e w2 ⟨rfl,hb2⟩;have HS2:=Aa (HS1.o.grow hb2);have Hg2:=Aa (Hg1.o.trans (Dc hb2 _));have C2:=Aa HS2.o.2.2.2.1;have hz2:b<w2.heap.size:=HS2.o.1;clear hb2 c1 z1;have kw:IntKind.i64.wrap ((t1.length:Int) - ((t1.dropWhile Co).length:Int))=(t1.length:Int) - ((t1.dropWhile Co).length:Int):=IntWalk.i64_in _ aG;have k1:(0:Int)<=(t1.length:Int) - ((t1.dropWhile Co).length:Int):=aG;have k2:(t1.length:Int) - ((t1.dropWhile Co).length:Int)<=(t1.length:Int):=aG;have k3:((t1.length:Int) - ((t1.dropWhile Co).length:Int)).toNat=t1.length - (t1.dropWhile Co).length:=aG;obtain⟨a,ha⟩:∃a,a=t1.takeWhile Co:=⟨_,rfl⟩
 obtain⟨r,hr⟩:∃r,r=t1.dropWhile Co:=⟨_,rfl⟩
 rw[<-ha]at Htk;rw[<-hr]at Htk Hw2 hdl kw k1 k2 k3;simp only[<-hr];have Hq:=Aa (fun t3 b2 b3=>Hq.o t3 b2 b3);simp only[<-hr,<-ha]at Hq;clear ha hr;go_wp2_with fail;refine Qr [12,13,14,15,16,17,18,19,20,21,22,23,24,4]
  (fun ix v W=>match ix with|0=>v=b|1=>v=b|2=>v=(b,1)|3=>v=.string ⟨t1.toArray⟩|4=>v=b|5=>v=b|6=>v=(b,1)|7=>v=.string ⟨t1.toArray⟩|8=>v=(t1.length:Int)|9=>v=.string ⟨r.toArray⟩|10=>v=(r.length:Int)|11=>v=.int .i64 ((t1.length:Int) - (r.length:Int))|12=>v=.string ⟨a.toArray⟩|13=>v=.string ⟨a.toArray⟩|_=>True)
  (fun L U W=>∃k,W=w2.drewN k) (⟨1,rfl⟩) ?_ ?_
 ·repeat (first|exact Av.nil|(refine Av.cons ?_ ?_;rotate_left))
  all_goals
   rintro L U W hL hpre HR Hdep K hK;obtain⟨k,hk⟩:=HR.o;have c1:W.cell? (b,1)=some (.string ⟨t1.toArray⟩):=by rw[hk];exact C2.o
   clear hk;first|(simp[Region.binds]at hpre;done)|simp[Region.binds]at hpre|clear hpre
  iterate 11
   ·exact ir
  ·exact kt
  ·exact jU
  ·exact ir
 rintro L U W hL hφ hR;have e13:U 13=.string ⟨a.toArray⟩:=hφ 13 aJ;simp only[e13];clear hφ;obtain⟨k,rfl⟩:=hR;clear hL;have HS3:=Aa (HS2.o.drew k);have Hg3:=Aa (Hg2.o.trans (Dc (below_drewN (Aw _ _) k) _));have hf1:=HS3.o.2.1.live 1;have q0:=HS3.o.1;have j2:=HS3.o.2.2.2.1;have j3:=HS3.o.2.2.2.2;go_wp2_with fail;refine(Hw2.o _ (HS3.o.setText r)).mono ?_;rintro e w4 ⟨rfl,hs4,hg4⟩;have HS4:=Aa hs4;have Hg4:=Aa ((Hg3.o.trans (Al _ _ _ _)).trans hg4);clear hg4 hs4 j2 j3 hf1 q0;have Hq4:=Aa (fun b3=>Hq.o _ _ b3 rfl rfl);generalize (An [39] r b1).getD r=t3 at *;generalize (An [39] r b1).isNone=b2 at *;have hf2:=HS4.o.2.1.live 2;have q0:=HS4.o.1;have k3:=HS4.o.2.2.2.2;by_cases hlen:a.length<=12
 ·have t1:decide ((12:Int)<(a.length:Int))=false:=aO;go_wp2_with fail;go_ret;obtain⟨h1,h2⟩:=Hq4.o b2 aO;exact⟨a,t3,b2,rfl,⟨HS4.o,Hg4.o⟩,h1,h2⟩
 have t1:decide ((12:Int)<(a.length:Int))=true:=aO;go_wp2_with fail;go_ret;obtain⟨h1,h2⟩:=Hq4.o true aO;exact⟨a,t3,true,rfl,⟨HS4.o.setBad true,Hg4.o.trans (Al _ _ _ _)⟩,h1,h2⟩
end
theorem Tryz.xtraJ:Builder.Extra prog Tryz.lays156_ren where
 sizeBuilder:=aM
 liesBuilder:=aM
 t5:=underlying5
 a5:=isAgg5
 z5:=sizeOf5
 v5:=zeroValue5
 infoByte:=aM
 cellsByte:=aM
 sizeByte:=aM
 neB5:=aJ
theorem Y7(c:UInt8):∀ps:List (List UInt8),Lib.join ps [c]=Am c ps
 |[]=>rfl
 |[p]=>by rw[Lib.join_one];rfl
 |p::q::r=>by
  have ih:=Y7 c (q::r);rw[B0 c p aL,<-ih,Lib.join_cons p,Lib.join_cons q];simp[Lib.joinTail]
theorem Qgw(ps:List (List UInt8)):ps.length<=Cq ps:=by
 induction ps with
 |nil=>exact Ar _
 |cons p ps ih=>rw[Cu,List.length_cons];omega
theorem Qj2(sep:List UInt8)(A:Option Addr)(c:Nat)(ps:List (List UInt8))(w:World)(hr:Bh w A ps.length (Ah ps))(hcp:ps.length<=c)(hl:Cq ps<=2000000)(hj:(Lib.join ps sep).length<=2000000):
  Calls prog 37 #[.slice A ps.length c,sep] w fun e w'=>e=.returned (.string ⟨(Lib.join ps sep).toArray⟩)/\Below w w w':=by
 by_cases h0:ps.length=0
 ·have e0:ps=[]:=List.length_eq_zero_iff.1 h0;subst e0;exact(Any.strings_Join_none Tryz.lays156 Tryz.xtraJ A c ⟨sep.toArray⟩ w).mono fun e w' ⟨he,hw⟩=>⟨he,hw ▸ Aw _ _⟩
 have hpl:=Qgw ps;obtain⟨hlc,_,hrow⟩:=hr;obtain⟨b,off,rfl,hb,hcl⟩:=hrow aG;have e1:(ps.map fun p=>(⟨p.toArray⟩:ByteArray)).map (·.data.toList)=ps:=by rw[List.map_map];exact List.map_id ps
 have h:=Any.strings_Join Tryz.lays156 Tryz.xtraJ b off c (ps.map fun p=>(⟨p.toArray⟩:ByteArray)) ⟨sep.toArray⟩ w (fun j x hx=>by
  rw[List.getElem?_map]at hx;obtain⟨p,hp,rfl⟩:=Option.map_eq_some_iff.1 hx;exact hcl j _ (by rw[Ah,List.getElem?_map,hp];rfl)) hb (by rw[List.length_map];omega) (by rw[List.length_map];exact hcp) (by rw[e1];show (Lib.join ps sep).length<=_;omega)
 rw[e1,List.length_map]at h;exact h
theorem Qgd(s:UInt8)(A:Option Addr)(c:Nat)(ps:List (List UInt8))(w:World)(hr:Bh w A ps.length (Ah ps))(hcp:ps.length<=c)(hl:Cq ps<=2000000):
  Calls prog 37 #[.slice A ps.length c,.string ⟨#[s]⟩] w fun e w'=>e=.returned (.string ⟨(Am s ps).toArray⟩)/\Below w w w':=by
 have:=Qj2 [s] A c ps w hr hcp hl (by rw[Y7,Bg];omega);rwa [Y7]at this
theorem Qnt(A:Option Addr)(c:Nat)(ps:List (List UInt8))(w:World)(hr:Bh w A ps.length (Ah ps))(hcp:ps.length<=c)(hl:Cq ps<=2000000):
  Calls prog 37 #[.slice A ps.length c,.string ⟨#[44]⟩] w fun e w'=>e=.returned (.string ⟨(Am 44 ps).toArray⟩)/\Below w w w':=Qgd 44 A c ps w hr hcp hl
section
attribute [local go_sem] Qo1 Qof Qnv Qlx ByteArray.mk_append_mk
inductive Bd:Vl->Prop
 |mk {w:UInt8} {tx:List UInt8} {tg:Nat} {ks:List Vl} (h1:tg<=1000000000) (h2:Cq (ks.map Ay)<=1000000) (h3:tx.length<=1000000) (h:∀x∈ks,Bd x):Bd (.mk w tx tg ks)
theorem Gm{w:World}{base k n:Nat}{e:TypeId}{v:Value}{xs:List Value}(h:w.ownsRow base e k v n xs):∃A m c,v=.slice A m c:=by
 rcases h.2 with⟨rfl,_⟩|⟨g,cap,cur,rfl,_⟩
 ·exact⟨_,_,_,rfl⟩
 exact⟨_,_,_,rfl⟩
theorem Xy{w:World}{base n m c:Nat}{e:TypeId}{A:Option Addr}{xs:List Value}(h:w.ownsRow base e 1 (.slice A m c) n xs):m=n/\n<=c\/n=0/\m=0:=by
 rcases h.2 with⟨e,h0⟩|⟨g,cap,cur,e,_,_,hnc,_⟩
 ·injection e with _ e1 e2;exact .inr ⟨h0,e1⟩
 injection e with _ e1 e2;subst e1 e2;exact .inl ⟨rfl,hnc⟩
theorem Qnp(w:UInt8)(tx:List UInt8)(tg:Nat)(ps:List (List UInt8)):Fa w tx tg ps=if w=116 then 39::(tx++[39])
  else if w=91 then 91::(Am 44 ps++[93])else if w=63 then(if ps.length=0 then[45]else 43::Am 44 ps)else if w=61 then Bb tg++61::Am 44 ps else if w=82 then 123::(Am 44 ps++[125])
  else if w=85 then 60::(Bb tg++61::(Am 44 ps++[62]))else if w=69 then 35::Bb tg else tx:=by
 unfold Fa;cases ps<;>rfl
theorem Qd1(P:Nat->Prop)(v:Vl)(sl:Value)(w:World)(h:Dt P w sl v.kids)(hb:Bd v)
  (ih:∀x∈v.kids,∀s W,Dt P W s x.kids->Calls prog 26 #[Gy x s] W fun e w'=>e=.returned (.string ⟨(Ay x).toArray⟩)/\Below W W w'):
  Calls prog 26 #[Gy v sl] w fun e w'=>e=.returned (.string ⟨(Ay v).toArray⟩)/\Below w w w':=by
 have Ih:=Aa ih;obtain⟨wh,tx,tg,ks⟩:=v;obtain⟨h1,h2,h3,_⟩:=hb;have HF:=Aa (E4 wh tx tg ks);simp only[Vl.kids]at h;have Ih:=@Aa (∀x∈ks,∀s W,Dt P W s x.kids->_) ih;obtain⟨A,c,xs,rfl,rfl,hl,hr,hP,hk⟩:=h;have Hr:=Aa hr;have Hk:=Aa hk;have hxl:(As xs).length=xs.length:=by simp[As]
 have Hd:=Aa (fun W=>Qz tg tg W (Ar _) h1);clear hr hk ih hP;unfold Gy;simp only[Vl.what,Vl.text,Vl.tag];go_enter func26,ntmps26;go_wp2_with fail;obtain⟨w1,hw1⟩:∃w1,w1=w.alloc (.cells #[.int .u8 (wh.toNat:Int),tx,(tg:Int),.slice A xs.length c] 42):=⟨_,rfl⟩
 rw[<-hw1];have c0:w1.cell? (w,0)=some (.int .u8 (wh.toNat:Int)):=cO;have c1:w1.cell? (w,1)=tx:=cO;have c2:w1.cell? (w,2)=(tg:Int):=cO;have c3:w1.cell? (w,3)=some (.slice A xs.length c):=cO;have hz1:w1.heap.size=w.heap.size+1:=cO;have Hb1:=Aa (show Below w w w1 by rw[hw1];exact(Aw _ _).alloc (Ar _) _);have Hr1:=Aa (Hr.o.below Hb1.o);have Hk1:=Aa (fun x hx=>(Hk.o x hx).after Hb1.o);have hB:w.heap.size<w1.heap.size:=aG;generalize hB0:w.heap.size=B at *;have HB0:=Aa hB0;clear hB0;clear hw1 Hr Hk;go_loopw [10,3] (fun i u wr=>∃(m:Nat) (A3:Option Addr) (n3 q3:Nat),i=.int .i64 m/\u=.slice A3 n3 q3/\m<=xs.length/\Hid (wr.ownsRow w1 9 1 (.slice A3 n3 q3) m (Ah ((xs.take m).map fun x=>Ay x.1)))/\Hid (Below w1 w1 wr)) (fun i _ _=>xs.length - (intOf i).toNat)
 case atStart=>exact⟨0,none,0,0,rfl,rfl,ag _,World.ownsRow_nil _ _ _ _,Aw _ _⟩
 case round=>
  obtain⟨m,A3,n3,q3,rfl,rfl,hm,Hown,Hbr⟩:=hrel;have m1:(0:Int)<=(m:Int):=aG;by_cases hlt:m<xs.length
  ·have m2:(m:Int)<(xs.length:Int):=aG;obtain⟨b,off,rfl,hb,d0,d1,d2,d3⟩:=Dt.at_ (Hr1.o.below Hbr.o) hlt;have hkx:=(Hk1.o _ (ae hlt)).after Hbr.o;have Hkx:=Aa hkx;have Hmx:=@Aa (xs[m].1∈As xs) (ao (ae hlt));have Hts:=Aa (Bx xs m hlt);have hsz:w1.heap.size<=wr.heap.size:=Hbr.o.size;have hbn:¬(b=wr.heap.size):=aG;clear hkx;generalize xs[m]=x at *;obtain⟨y,ys⟩:=x;obtain⟨A7,c7,e7⟩:=Hkx.o.form;simp only at e7 d0 d1 d2 d3 Hkx Hmx;subst e7;have Hx:=Aa (fun W=>Ih.o y Hmx.o (.slice A7 y.kids.length c7) W);unfold Gy at Hx;go_wp2_with fail;refine(Hx.o _ (Hkx.o.after ((Aw _ _).alloc (Ar _) _))).mono ?_;rintro e w3 ⟨rfl,hb3⟩;have Hb3:=Aa (((Aw _ _).alloc (Ar _) _).trans (hb3.mono aL));have Ho3:=Aa (Ba Hown.o Hb3.o);have hs3:w1.heap.size<=w3.heap.size:=ad hsz Hb3.o.size;clear hb3;go_wp2_with (at_builtin;refine J2 _ rfl _ _ 63 rfl w1 9 aa 16 underlying63 Ej rfl w3 (.string ⟨(Ay y).toArray⟩) rfl rfl (.slice A3 n3 q3) m (Ah ((xs.take m).map fun x=>Ay x.1)) rfl rfl Ho3.o aU aG hs3 ?_;intro v' w5 hown5 hb5;obtain⟨A5,n5,c5,rfl⟩:=Gm hown5;have Ho:=Aa hown5;have Hb5:=Aa hb5;clear hown5 hb5)
   go_roundw
   case rel=>exact⟨m+1,A5,n5,c5,by go_num,rfl,by omega,(by rw[Hts.o,ay,Jn];exact Ho.o),(Hbr.o.trans (Hb3.o.mono hsz)).trans Hb5.o⟩
   case measure=>simp[intOf];omega
  ·obtain rfl:m=xs.length:=aG;have hown6:=Hown.o;rw[List.take_length]at hown6;have hrow:=Bh.own hown6;obtain⟨A6,c6,e6,hr6⟩:=hrow;have hcap:=Xy hown6;injection e6 with e7 e8 e9;subst e7 e8 e9;have Hps:=Aa (show (xs.map fun x=>Ay x.1)=(As xs).map Ay by simp[As]);have hpl:(xs.map fun x=>Ay x.1).length=xs.length:=aL
   have Hj:=Aa (fun W (hW:Bh W A3 xs.length (Ah (xs.map fun x=>Ay x.1)))=>(by
    have:=Qnt A3 q3 (xs.map fun x=>Ay x.1) W (by rw[hpl];exact hW) (by rw[hpl];omega) (by rw[Hps.o];omega);rw[hpl]at this;exact this:Calls prog 37 #[.slice A3 xs.length q3,.string ⟨#[44]⟩] W fun e w'=>e=.returned (.string ⟨(Am 44 (xs.map fun x=>Ay x.1)).toArray⟩)/\Below W W w'))
   have HF:=Aa (show Ay (.mk wh tx tg (As xs))=_ by rw[HF.o,<-Hps.o,Qnp,hpl]);have hjl:(Am 44 (xs.map fun x=>Ay x.1)).length<=1000000:=by rw[Bg,Hps.o];omega
   have hdl:(Bb tg).length<=11:=C0 10 tg (by have e:10 ^ (10+1)=100000000000:=rfl;omega);generalize (xs.map fun x=>Ay x.1)=ps at *;generalize Am 44 ps=jt at *;have Hr6:=Aa hr6;have Hb6:=Aa (Hb1.o.trans (Hbr.o.mono aG));clear hown6 hr6 hcap Hps hpl Hown Ih Hk1 Hr1;go_wp2_with fail;refine(Hj.o _ Hr6.o).mono ?_;rintro e w4 ⟨rfl,hb4⟩;have Hb4:=Aa (Hb6.o.trans (hb4.mono eX));have hc4:=fun j=>(hb4.cell (p:=⟨B,j,none⟩) (show B<wr.heap.size by have:=Hbr.o.size;omega)).trans (Hbr.o.cell (p:=⟨B,j,none⟩) hB);have g0:=(hc4 0).trans c0;have g1:=(hc4 1).trans c1;have g2:=(hc4 2).trans c2;have g3:=(hc4 3).trans c3;clear hc4 hb4 Hj Hr6 Hb6 Hbr Hb1;by_cases a116:wh=116
   ·have HF:=Aa (HF.o.trans (if_pos a116));have t116:((wh.toNat:Int) == 116)=true:=Bs (d:=116) a116;clear a116;go_wp2_with fail;exact kV
   have HF:=Aa (HF.o.trans (if_neg a116));have t116:((wh.toNat:Int) == 116)=false:=At (d:=116) a116;clear a116;by_cases a91:wh=91
   ·have HF:=Aa (HF.o.trans (if_pos a91));have t91:((wh.toNat:Int) == 91)=true:=Bs (d:=91) a91;clear a91;go_wp2_with fail;exact kV
   have HF:=Aa (HF.o.trans (if_neg a91));have t91:((wh.toNat:Int) == 91)=false:=At (d:=91) a91;clear a91;by_cases a63:wh=63
   ·have HF:=Aa (HF.o.trans (if_pos a63));have t63:((wh.toNat:Int) == 63)=true:=Bs (d:=63) a63;clear a63;by_cases h0:xs.length=0
    ·have e0:((xs.length:Int) == 0)=true:=by simp[h0]
     have HF:=Aa (HF.o.trans (if_pos h0));clear h0;go_wp2_with fail;exact kW
    have e0:((xs.length:Int) == 0)=false:=bY;have HF:=Aa (HF.o.trans (if_neg h0));clear h0;go_wp2_with fail;exact kW
   have HF:=Aa (HF.o.trans (if_neg a63));have t63:((wh.toNat:Int) == 63)=false:=At (d:=63) a63;clear a63;by_cases a61:wh=61
   ·have HF:=Aa (HF.o.trans (if_pos a61));have t61:((wh.toNat:Int) == 61)=true:=Bs (d:=61) a61;clear a61;go_wp2_with fail;refine(Hd.o _).mono ?_;rintro e w5 ⟨rfl,hb5⟩;have Hb4:=Aa (Hb4.o.trans (hb5.mono eW));clear hb5;go_wp2_with fail;exact kV
   have HF:=Aa (HF.o.trans (if_neg a61));have t61:((wh.toNat:Int) == 61)=false:=At (d:=61) a61;clear a61;by_cases a82:wh=82
   ·have HF:=Aa (HF.o.trans (if_pos a82));have t82:((wh.toNat:Int) == 82)=true:=Bs (d:=82) a82;clear a82;go_wp2_with fail;exact kV
   have HF:=Aa (HF.o.trans (if_neg a82));have t82:((wh.toNat:Int) == 82)=false:=At (d:=82) a82;clear a82;by_cases a85:wh=85
   ·have HF:=Aa (HF.o.trans (if_pos a85));have t85:((wh.toNat:Int) == 85)=true:=Bs (d:=85) a85;clear a85;go_wp2_with fail;refine(Hd.o _).mono ?_;rintro e w5 ⟨rfl,hb5⟩;have Hb4:=Aa (Hb4.o.trans (hb5.mono eW));clear hb5;go_wp2_with fail;exact kV
   have HF:=Aa (HF.o.trans (if_neg a85));have t85:((wh.toNat:Int) == 85)=false:=At (d:=85) a85;clear a85;by_cases a69:wh=69
   ·have HF:=Aa (HF.o.trans (if_pos a69));have t69:((wh.toNat:Int) == 69)=true:=Bs (d:=69) a69;clear a69;go_wp2_with fail;refine(Hd.o _).mono ?_;rintro e w5 ⟨rfl,hb5⟩;have Hb4:=Aa (Hb4.o.trans (hb5.mono eW));clear hb5;go_wp2_with fail;exact kV
   have HF:=Aa (HF.o.trans (if_neg a69));have t69:((wh.toNat:Int) == 69)=false:=At (d:=69) a69;clear a69;go_wp2_with fail;exact kW
theorem M8(P:Nat->Prop){v:Vl}(hb:Bd v):∀(sl:Value) (w:World),Dt P w sl v.kids ->
  Calls prog 26 #[Gy v sl] w fun e w'=>e=.returned (.string ⟨(Ay v).toArray⟩)/\Below w w w':=by
 induction hb with
 |mk h1 h2 h3 h ih=>exact fun sl w hk=>Qd1 P _ sl w hk (.mk h1 h2 h3 h) fun x hx s W hs=>ih x hx s W hs
section
variable {P:Program}
theorem Ai{fn:Func}{p:Tmp}{ty:TypeId}(h:fn.results=#[.cell p ty])(tmps:Array Value)(w:World)(b:Nat)(cs:List Value)(d:TypeDesc)
  (hp:tmps.getD p undef=b) (hc:w.rangeAt b 0 cs) (hu:P.underlying ty=some d) (hd:d.isRow=true) (hi:(P.info? ty).map (·.size)=some cs.length):
  (results fn tmps).run P w=.ok (.agg cs.toArray) w:=by
 have hp':tmps[p]?.getD undef=b:=ft;simp[results,h,hp',asAddr,run_loadVar_mid w b 0 ty cs d hc hu hd hi]
end
theorem D2(b nm:ByteArray)(w:World):Calls prog 35 #[.agg #[aa,.string b,.string nm]] w fun e w'=>e=.returned (.int .u8 0)/\Below w w w':=by
 go_enter func35,ntmps35;go_wp2_with fail;go_ret;exact⟨rfl,(Aw _ _).alloc (Ar _) _⟩
theorem Fc(c:UInt8)(t:List UInt8)(hl:t.length<=1000)(b nm:ByteArray)(w:World):Calls prog 35 #[.agg #[.string ⟨(c::t).toArray⟩,.string b,.string nm]] w fun e w'=>e=.returned (.int .u8 (c.toNat:Int))/\Below w w w':=by
 go_enter func35,ntmps35;go_wp2_with fail;go_ret;exact⟨rfl,(Aw _ _).alloc (Ar _) _⟩
theorem Mr(k:Kd)(w:World)(c:UInt8)(t:List UInt8)(hs:k.signs=c::t)(hl:t.length<=1000):
  Calls prog 36 #[Ey k] w fun e w'=>e=.returned (Ey k.part)/\Below w w w':=by
 have hp:k.part=⟨t,k.base,k.name⟩:=ew;rw[hp];unfold Ey;rw[hs];clear hp hs;go_enter func36,ntmps36;go_wp2_with fail;refine aE (v:=.agg ([t,k.base,k.name]:List Value).toArray) ?_ rfl ?_
 ·refine Ai results36 _ _ (w.heap.size+1) _ _ rfl ?_ underlying39 rfl aM;intro j v hv;match j,hv with
  |0,hv=>simp at hv;subst hv;simp[go_sem]
  |1,hv=>simp at hv;subst hv;simp[go_sem]
  |2,hv=>simp at hv;subst hv;simp[go_sem]
  |n+3,hv=>simp at hv
 exact⟨rfl,((Aw _ _).alloc (Ar _) _).alloc aL _⟩
theorem Qbs{w W:World}{row:Option Nat}{B o:Nat}(h:w.grownBy W row)(hB:w.heap.size<=B):∀(cs:List Value) (o:Nat),w.grownBy (W.setCells B o cs) row:=by
 intro cs;induction cs generalizing W with
 |nil=>intro o;exact h
 |cons v cs ih=>
  intro o;refine ih (W:=W.setCell ⟨B,o,none⟩ v) ⟨h.os,h.tape,h.output,by simpa using h.size,fun k hk hne=>?_⟩ (o+1);rw[Go.heap_setCell_other _ _ _ _ (show k≠B by omega)];exact h.block k hk hne
theorem Dn.trans{w w1 w2:World}{b:Nat}{p:Value}{t t':List UInt8}{x y:Bool}(h1:Dn w b p t x w1)(h2:Dn w1 b p t' y w2):Dn w b p t' y w2:=⟨h2.1,h1.2.trans h2.2⟩
theorem Dn.pre{w w1 w2:World}{b:Nat}{p:Value}{t:List UInt8}{x:Bool}(hb:Below w w w1)(h:Dn w1 b p t x w2):Dn w b p t x w2:=⟨h.1,(Dc hb _).trans h.2⟩
theorem Dn.post{w w1 w2:World}{b:Nat}{p:Value}{t:List UInt8}{x:Bool}(h:Dn w b p t x w1)(hb:Below w1 w1 w2):Dn w b p t x w2:=⟨h.1.grow hb,h.2.trans (Dc hb _)⟩
theorem Dn.set{w W:World}{b B:Nat}{p:Value}{t:List UInt8}{x:Bool}(h:Dn w b p t x W)(hB:w.heap.size<=B)(hne:B≠b)(cs:List Value):Dn w b p t x (W.setCells B 0 cs):=by
 obtain⟨⟨h0,h1,h2,h3,h4⟩,hg⟩:=h;have hk:(W.setCells B 0 cs).heap[b]?=W.heap[b]?:=(En B cs 0 W).block b h0 (by simpa using hne.symm);have hc:∀o,(W.setCells B 0 cs).cell? ⟨b,o,none⟩=W.cell? ⟨b,o,none⟩:=fun o=>World.cell?_of_block (a:=⟨b,o,none⟩) hk;obtain⟨c1,t1,e1⟩:=h1;exact⟨⟨by rw[Cy];exact h0,⟨c1,t1,hk.trans e1⟩,(hc 0).trans h2,(hc 1).trans h3,(hc 2).trans h4⟩,Qbs (o:=0) hg hB cs 0⟩
theorem Dn.env{w0 w w1:World}{b:Nat}{p:Value}{t:List UInt8}{x:Bool}(h:Dn w b p t x w1)(h0:Below w0 w0 w)(hb:w0.heap.size<=b):Below w0 w0 w1:=
 h0.grown h.2 h0.size fun k hk=>by injection hk with hk;omega
theorem Dt.set{P:Nat->Prop}{w:World}{v:Value}{ks:List Vl}(h:Dt P w v ks){B:Nat}(hB:¬P B)(cs:List Value):Dt P (w.setCells B 0 cs) v ks:=
 h.grown (En B cs 0 w) fun b hb e=>by injection e with e;subst e;exact hB hb
def M5(w:World)(b:Nat)(p:Value)(t:List UInt8)(N:Nat)(r:Option (Vl × List UInt8))(e:Ending)(w':World):Prop:=
 ∃(v:Vl) (sl:Value) (t':List UInt8),e=.returned (Gy v sl)/\Dt (fun b=>w.heap.size<=b) w' sl v.kids/\Dn w b p t' r.isNone w'/\(∀x,r=some x->v=x.1/\t'=x.2)/\Bd v/\t'.length<=t.length/\(Ay v).length+t'.length<=t.length+8*N
def Fp:Vl:=.mk 0 [] 0 []
theorem Ge{w:UInt8}{tx:List UInt8}{tg:Nat}(h1:tg<=1000000000)(h3:tx.length<=1000000):Bd (.mk w tx tg []):=.mk h1 d7 h3 aL
theorem Sx.range{w:World}{A:Option Addr}{fs:List Fd}(hr:Bh w A (fs.length*6) (fs.flatMap Sp)){i:Nat}(hi:i<fs.length):∃b off,A=some ⟨b,off,none⟩/\b<w.heap.size/\w.rangeAt b (off+i*6) (Sp fs[i]):=by
 obtain⟨b,off,e,hlt,hc⟩:=hr.elem Qgu (by decide) hi
 exact⟨b,off,e,hlt,fun j v hv=>by rw[Nat.add_assoc];exact hc j v hv⟩
theorem My(c:UInt8)(s:List UInt8):(Ds c s).1.length<=s.length/\(Ds c s).2.1.length<=s.length:=by
 rcases Gp c s with⟨_,h⟩|⟨p,t,rfl,_,h⟩
 ·rw[h];simp
 rw[h];simp;omega
def Nu(st:UInt8)(ps:List (List UInt8))(vl:List UInt8)(td:Bool):Option Fd:=
 if st=69 then
  match Ml ps with
  |some (n,b)=>if td=true then none else some ⟨n,b,Kd.nil,vl⟩
  |none=>none
 else
  match Nf ps with
  |some (n,b,c)=>(match C4 c with
   |some k=>if td=true/\¬(st=82/\k.signs=[]/\Cf k.base vl=true)then none else some ⟨n,b,k,vl⟩
   |none=>none)
  |none=>none
theorem Qao(st:UInt8)(s:List UInt8):Jx st s=Nu st (Ak 58 (Ds 61 s).1) (Ds 61 s).2.1 (Ds 61 s).2.2:=rfl
theorem Zv{st:UInt8}{ps:List (List UInt8)}{vl:List UInt8}{td:Bool}(h:ps.length≠if st=69 then 2 else 3):Nu st ps vl td=none:=by
 unfold Nu;by_cases e:st=69
 ·rw[if_pos e]at h ⊢;match ps,h with
  |[],_=>rfl
  |[_],_=>rfl
  |[_,_],h=>exact absurd rfl h
  |_::_::_::_,_=>rfl
 rw[if_neg e]at h ⊢;match ps,h with
 |[],_=>rfl
 |[_],_=>rfl
 |[_,_],_=>rfl
 |[_,_,_],h=>exact absurd rfl h
 |_::_::_::_::_,_=>rfl
def Po(a b:List UInt8)(n:Nat):Prop:=Cz a=some n/\1<=n/\n<=200/\Bf b=true
theorem V9{st:UInt8}{a b:List UInt8}{r:List (List UInt8)}{vl:List UInt8}{td:Bool}(h:∀n,¬Po a b n):Nu st (a::b::r) vl td=none:=by
 have h2:∀c,Ml (a::b::c)=none:=by
  intro c;match c with
  |[]=>
   cases hd:Cz a with
   |none=>simp only[Ml,hd]
   |some n=>simp only[Ml,hd];exact if_neg fun(e:1<=n/\n<=200/\Bf b=true)=>h n ⟨hd,e.1,e.2.1,e.2.2⟩
  |_::_=>rfl
 have h3:∀c,Nf (a::b::c)=none:=by
  intro c;match c with
  |[]=>rfl
  |[x]=>
   cases hd:Cz a with
   |none=>simp only[Nf,hd]
   |some n=>simp only[Nf,hd];exact if_neg fun(e:1<=n/\n<=200/\Bf b=true)=>h n ⟨hd,e.1,e.2.1,e.2.2⟩
  |_::_::_=>rfl
 unfold Nu;rw[h2,h3];split<;>rfl
theorem Qjq{a b:List UInt8}{vl:List UInt8}{td:Bool}{n:Nat}(h:Po a b n):Nu 69 [a,b] vl td=if td=true then none else some ⟨n,b,Kd.nil,vl⟩:=by
 obtain⟨h1,h2,h3,h4⟩:=h;unfold Nu Ml;simp[h1,h2,h3,h4]
theorem Qli{st:UInt8}{a b c:List UInt8}{vl:List UInt8}{td:Bool}{n:Nat}(hst:st≠69)(h:Po a b n):Nu st [a,b,c] vl td=(match C4 c with
   |some k=>if td=true/\¬(st=82/\k.signs=[]/\Cf k.base vl=true)then none else some ⟨n,b,k,vl⟩
   |none=>none):=by
 obtain⟨h1,h2,h3,h4⟩:=h;unfold Nu Nf;simp[h1,h2,h3,h4,hst]
theorem Qfn{k:Kd}(h:Qcu k):Qnj k.base:=by
 rcases h with⟨h,_⟩|⟨h|h|h,_⟩
 ·exact .inr (.inr (.inr h))
 ·exact .inl h
 ·exact .inr (.inl h)
 exact .inr (.inr (.inl h))
theorem Qn6{ps:List (List UInt8)}(h:ps.length=2):∃a b,ps=[a,b]:=by
 match ps,h with
 |[a,b],_=>exact⟨a,b,rfl⟩
theorem Qn4{ps:List (List UInt8)}(h:ps.length=3):∃a b c,ps=[a,b,c]:=by
 match ps,h with
 |[a,b,c],_=>exact⟨a,b,c,rfl⟩
theorem Vq{w:World}{b o n:Nat}(h:w.there b o n)(k:Nat):(w.drewN k).there b o n:=by
 induction k generalizing w with
 |zero=>exact h
 |succ k ih=>exact ih aR
theorem Qky(st:UInt8)(hst:st=69)(s:List UInt8)(w:World)(hs:s.length<=4000000):
  Calls prog 121 #[s,.int .u8 (st.toNat:Int)] w (Em (Jx st s) w):=by
 have HF:=Aa (Qao st s);have Hcut:=Aa (fun W=>Tf s 61 W aG);have hcl:=(My 61 s).1;have hvl:=(My 61 s).2;generalize Ds 61 s=r at HF Hcut hcl hvl;obtain⟨hd,vl,td⟩:=r;simp only at hcl hvl HF;have Hsp:=Aa (fun W=>T9 hd 58 W aG);have hne:=Ex 58 hd;have Hpl:=Aa (Aq 58 hd);generalize Ak 58 hd=ps at HF Hsp hne Hpl;have e69:((st.toNat:Int) == 69)=true:=Bs hst;have n69:((st.toNat:Int) != 69)=false:=Nm hst;have Hst0:=Aa hst;clear hst;go_enter func121,ntmps121;go_wp2_with fail;refine(Hcut.o _).mono ?_;rintro e w1 ⟨rfl,k1,rfl⟩;unfold Qei;go_wp2_with fail;refine(Hsp.o _).mono ?_;rintro e w2 ⟨v,rfl,ho,hb⟩;obtain⟨g,c,rfl,hg1,hg2,hcells⟩:=N9 ho hne;have hzz:w.heap.size<w2.heap.size:=by have:=hb.size;simp at this;omega
 have HT:=@Aa (w2.there w 0 6) (Bc (Vq (Dk w [.int .i64 0,aa,aa,aa,aa,aa] 85) k1) aL hb);have Hb:=@Aa (Below w w w2) ((below_drewN ((Aw w.heap.size w).alloc (Ar _) _) k1).trans (hb.mono aL));have Hcells:=Aa hcells;clear hb ho hcells hne;by_cases hlen:ps.length=2
 ·obtain⟨a,b,rfl⟩:=Qn6 hlen;have c0:=Hcells.o 0 aL;have c1:=Hcells.o 1 aL;simp at c0 c1;have la:a.length<=4000000:=by have:=Hpl.o a aL;omega
  have lb:b.length<=4000000:=by have:=Hpl.o b aL;omega
  clear Hpl Hcells hlen;have hpn:=fun W=>(show Calls prog 130 #[a,.int .i64 200] W fun e w'=>e=.returned (pnV a 200)/\W=w' from Jq a 200 W aG aJ)
  have Hhead:=@Aa (∀n,Po a b n↔Cz a=some n/\1<=n/\n<=200/\Bf b=true) (fun n=>Iff.rfl);have Hno:=Aa (fun(h:∀n,¬Po a b n)=>HF.o.trans (V9 h));generalize hda:Cz a=od at *;have Hda:=Aa hda;clear hda;cases od with
  |none=>
   have Hpn:=Aa (fun W=>(Sn (m:=200) Hda.o) ▸ hpn W);clear hpn;go_wp2_with fail;refine(Hpn.o _).mono ?_;rintro e w3 ⟨rfl,rfl⟩;go_wp2_with ((with_reducible refine Ad (op:=⟨none,.store 85 _ _,_,_,_,none⟩) rfl 85 _ _ rfl w 0 [.int .i64 0,aa,aa,aa,aa,aa] ?_ ?_ ?_ ?_ ?_ ?_);rfl;rfl;(first|exact aq HT.o _|exact HT.o);kernel_rfl;(simp[Value.oneCell']);intro w9 HS9)
   have HZ:=@Aa (w9.rangeAt w 0 [.int .i64 0,aa,aa,aa,aa,aa]) bq;refine aE (v:=.tuple #[.agg ([.int .i64 0,aa,aa,aa,aa,aa]:List Value).toArray,.bool false]) ?_ rfl ?_
   ·exact iF
   exact lA
  |some n=>
   have Hpn:=Aa (fun W=>(Xr (m:=200) Hda.o) ▸ hpn W);clear hpn;have hn9:n<=999999:=(Cm.1 Hda.o).1;rcases aF 200 n with h200|h200
   ·exact iN
   have Hdec:=Aa (show decide (n<=200)=true by simp;omega);rw[Hdec.o]at Hpn;rcases Nat.eq_zero_or_pos n with h0|h0
   ·exact iR
   have hlt1:decide ((n:Int)<1)=false:=f8;have Hname:=Aa (fun W=>M4 b W aG);generalize hnb:Bf b=nb at *;have Hnb:=Aa hnb;clear hnb;go_wp2_with fail;refine(Hpn.o _).mono ?_;rintro e w3 ⟨rfl,rfl⟩;go_wp2_with fail;refine(Hname.o _).mono ?_;rintro e w4 ⟨rfl,hb4⟩;have hz4:w2.heap.size<w4.heap.size:=hC;have HT4:=@Aa (w4.there w 0 6) (Bc (aq HT.o _) aO hb4);have HR4:=@Aa (w4.rangeAt w2 0 [(n:Int),b,aa,aa,aa,vl]) (Au (Ca w2 _ _) aL hb4);have HK4:=@Aa (w4.there w2 0 6) (Bc (Dk w2 [(n:Int),b,aa,aa,aa,vl] _) aL hb4);have Hb4:=@Aa (Below w w w4) ((Hb.o.alloc Hb.o.size _).trans (hb4.mono aO));clear hb4;cases nb with
   |false=>
    go_wp2_with ((with_reducible refine Ad (op:=⟨none,.store 85 _ _,_,_,_,none⟩) rfl 85 _ _ rfl w 0 [.int .i64 0,aa,aa,aa,aa,aa] ?_ ?_ ?_ ?_ ?_ ?_);rfl;rfl;(first|exact aq HT4.o _|exact HT4.o);kernel_rfl;(simp[Value.oneCell']);intro w9 HS9)
    have HZ:=@Aa (w9.rangeAt w 0 [.int .i64 0,aa,aa,aa,aa,aa]) cf;refine aE (v:=.tuple #[.agg ([.int .i64 0,aa,aa,aa,aa,aa]:List Value).toArray,.bool false]) ?_ rfl ?_
    ·exact iF
    exact lB
   |true=>
    have Hok:=@Aa (Po a b n) ((Hhead.o n).2 ⟨rfl,h0,h200,rfl⟩);have HF2:=Aa (HF.o.trans (show Nu st [a,b] vl td=if td=true then none else some ⟨n,b,Kd.nil,vl⟩from by rw[Hst0.o];exact Qjq Hok.o));clear Hno Hhead HF;have n82:((st.toNat:Int) != 82)=true:=Qh (c:=st) (d:=82) (by rw[Hst0.o];decide);cases td with
    |true=>
     go_wp2_with ((with_reducible refine Ad (op:=⟨none,.store 85 _ _,_,_,_,none⟩) rfl 85 _ _ rfl w 0 [.int .i64 0,aa,aa,aa,aa,aa] ?_ ?_ ?_ ?_ ?_ ?_);rfl;rfl;(first|exact aq HT4.o _|exact HT4.o);kernel_rfl;(simp[Value.oneCell']);intro w9 HS9)
     have HZ:=@Aa (w9.rangeAt w 0 [.int .i64 0,aa,aa,aa,aa,aa]) cf;refine aE (v:=.tuple #[.agg ([.int .i64 0,aa,aa,aa,aa,aa]:List Value).toArray,.bool false]) ?_ rfl ?_
     ·exact iF
     exact Em.no (HF2.o.trans aL) rfl bG
    |false=>
     go_wp2_with (first|((with_reducible refine Ad (op:=⟨none,.store 85 _ _,_,_,_,none⟩) rfl 85 _ _ rfl w 0 [(n:Int),b,aa,aa,aa,vl] ?_ ?_ ?_ ?_ ?_ ?_);rfl;rfl;(first|exact aq HT4.o _|exact HT4.o);kernel_rfl;(simp[Value.oneCell']);intro w9 HS9)|((with_reducible refine wpList_load_mid (op:=⟨_,.load 85 _,_,_,_,none⟩) rfl 85 _ rfl w2 0 ?_ [(n:Int),b,aa,aa,aa,vl] _ HR4.o underlying85 ?_ ?_ ?_);rfl;rfl;kernel_rfl))
     have HZ:=@Aa (w9.rangeAt w 0 [(n:Int),b,aa,aa,aa,vl]) cf;refine aE (v:=.tuple #[.agg ([(n:Int),b,aa,aa,aa,vl]:List Value).toArray,.bool true]) ?_ rfl ?_
     ·exact Ax results121 _ _ w.heap.size [(n:Int),b,aa,aa,aa,vl] _ _ rfl rfl HZ.o underlying85 rfl aM
     exact Em.yes (HF2.o.trans (if_neg (fun h=>by cases h))) rfl bG
 have Hno:=Aa (HF.o.trans (Zv (vl:=vl) (td:=td) (st:=st) (ps:=ps) (by rw[if_pos Hst0.o];exact hlen)));have hl1:¬(ps.length:Int)=2:=aG;have hl2:((ps.length:Int) != 2)=true:=by rw[bne_iff_ne];exact hl1
 clear HF Hpl Hcells;go_wp2_with ((with_reducible refine Ad (op:=⟨none,.store 85 _ _,_,_,_,none⟩) rfl 85 _ _ rfl w 0 [.int .i64 0,aa,aa,aa,aa,aa] ?_ ?_ ?_ ?_ ?_ ?_);rfl;rfl;(first|exact aq HT.o _|exact HT.o);kernel_rfl;(simp[Value.oneCell']);intro w9 HS9)
 have HZ:=@Aa (w9.rangeAt w 0 [.int .i64 0,aa,aa,aa,aa,aa]) bq;refine aE (v:=.tuple #[.agg ([.int .i64 0,aa,aa,aa,aa,aa]:List Value).toArray,.bool false]) ?_ rfl ?_
 ·exact iF
 exact Em.no Hno.o rfl aY
theorem Qji(st:UInt8)(hst:st≠69)(s:List UInt8)(w:World)(hs:s.length<=4000000):
  Calls prog 121 #[s,.int .u8 (st.toNat:Int)] w (Em (Jx st s) w):=by
 have HF:=Aa (Qao st s);have Hcut:=Aa (fun W=>Tf s 61 W aG);have hcl:=(My 61 s).1;have hvl:=(My 61 s).2;generalize Ds 61 s=r at HF Hcut hcl hvl;obtain⟨hd,vl,td⟩:=r;simp only at hcl hvl HF;have Hsp:=Aa (fun W=>T9 hd 58 W aG);have hne:=Ex 58 hd;have Hpl:=Aa (Aq 58 hd);generalize Ak 58 hd=ps at HF Hsp hne Hpl;have e69:((st.toNat:Int) == 69)=false:=At hst;have n69:((st.toNat:Int) != 69)=true:=Qh hst;have Hst0:=Aa hst;clear hst;go_enter func121,ntmps121;go_wp2_with fail;refine(Hcut.o _).mono ?_;rintro e w1 ⟨rfl,k1,rfl⟩;unfold Qei;go_wp2_with fail;refine(Hsp.o _).mono ?_;rintro e w2 ⟨v,rfl,ho,hb⟩;obtain⟨g,c,rfl,hg1,hg2,hcells⟩:=N9 ho hne;have hzz:w.heap.size<w2.heap.size:=by have:=hb.size;simp at this;omega
 have HT:=@Aa (w2.there w 0 6) (Bc (Vq (Dk w [.int .i64 0,aa,aa,aa,aa,aa] 85) k1) aL hb);have Hb:=@Aa (Below w w w2) ((below_drewN ((Aw w.heap.size w).alloc (Ar _) _) k1).trans (hb.mono aL));have Hcells:=Aa hcells;clear hb ho hcells hne;by_cases hlen:ps.length=3
 ·obtain⟨a,b,d,rfl⟩:=Qn4 hlen;have c0:=Hcells.o 0 aL;have c1:=Hcells.o 1 aL;have c2:=Hcells.o 2 aL;simp at c0 c1 c2;have la:a.length<=4000000:=by have:=Hpl.o a aL;omega
  have lb:b.length<=4000000:=by have:=Hpl.o b aL;omega
  have ld:d.length<=4000000:=by have:=Hpl.o d aL;omega
  clear Hpl Hcells hlen;have hpn:=fun W=>(show Calls prog 130 #[a,.int .i64 200] W fun e w'=>e=.returned (pnV a 200)/\W=w' from Jq a 200 W aG aJ)
  have Hhead:=@Aa (∀n,Po a b n↔Cz a=some n/\1<=n/\n<=200/\Bf b=true) (fun n=>Iff.rfl);have Hno:=Aa (fun(h:∀n,¬Po a b n)=>HF.o.trans (V9 h));generalize hda:Cz a=od at *;have Hda:=Aa hda;clear hda;cases od with
  |none=>
   have Hpn:=Aa (fun W=>(Sn (m:=200) Hda.o) ▸ hpn W);clear hpn;go_wp2_with fail;refine(Hpn.o _).mono ?_;rintro e w3 ⟨rfl,rfl⟩;go_wp2_with ((with_reducible refine Ad (op:=⟨none,.store 85 _ _,_,_,_,none⟩) rfl 85 _ _ rfl w 0 [.int .i64 0,aa,aa,aa,aa,aa] ?_ ?_ ?_ ?_ ?_ ?_);rfl;rfl;(first|exact aq HT.o _|exact HT.o);kernel_rfl;(simp[Value.oneCell']);intro w9 HS9)
   have HZ:=@Aa (w9.rangeAt w 0 [.int .i64 0,aa,aa,aa,aa,aa]) bq;refine aE (v:=.tuple #[.agg ([.int .i64 0,aa,aa,aa,aa,aa]:List Value).toArray,.bool false]) ?_ rfl ?_
   ·exact iF
   exact lA
  |some n=>
   have Hpn:=Aa (fun W=>(Xr (m:=200) Hda.o) ▸ hpn W);clear hpn;have hn9:n<=999999:=(Cm.1 Hda.o).1;rcases aF 200 n with h200|h200
   ·exact iN
   have Hdec:=Aa (show decide (n<=200)=true by simp;omega);rw[Hdec.o]at Hpn;rcases Nat.eq_zero_or_pos n with h0|h0
   ·exact iR
   have hlt1:decide ((n:Int)<1)=false:=f8;have Hname:=Aa (fun W=>M4 b W aG);generalize hnb:Bf b=nb at *;have Hnb:=Aa hnb;clear hnb;go_wp2_with fail;refine(Hpn.o _).mono ?_;rintro e w3 ⟨rfl,rfl⟩;go_wp2_with fail;refine(Hname.o _).mono ?_;rintro e w4 ⟨rfl,hb4⟩;have hz4:w2.heap.size<w4.heap.size:=hC;have HT4:=@Aa (w4.there w 0 6) (Bc (aq HT.o _) aO hb4);have HR4:=@Aa (w4.rangeAt w2 0 [(n:Int),b,aa,aa,aa,vl]) (Au (Ca w2 _ _) aL hb4);have HK4:=@Aa (w4.there w2 0 6) (Bc (Dk w2 [(n:Int),b,aa,aa,aa,vl] _) aL hb4);have Hb4:=@Aa (Below w w w4) ((Hb.o.alloc Hb.o.size _).trans (hb4.mono aO));have c2x:w4.cell? (g,2)=d:=(hb4.cell (p:=⟨g,2,none⟩) aO).trans (by rw[World.cell?_alloc_old _ _ _ aO];exact c2);clear hb4;cases nb with
   |false=>
    go_wp2_with ((with_reducible refine Ad (op:=⟨none,.store 85 _ _,_,_,_,none⟩) rfl 85 _ _ rfl w 0 [.int .i64 0,aa,aa,aa,aa,aa] ?_ ?_ ?_ ?_ ?_ ?_);rfl;rfl;(first|exact aq HT4.o _|exact HT4.o);kernel_rfl;(simp[Value.oneCell']);intro w9 HS9)
    have HZ:=@Aa (w9.rangeAt w 0 [.int .i64 0,aa,aa,aa,aa,aa]) cf;refine aE (v:=.tuple #[.agg ([.int .i64 0,aa,aa,aa,aa,aa]:List Value).toArray,.bool false]) ?_ rfl ?_
    ·exact iF
    exact lB
   |true=>
    have Hok:=@Aa (Po a b n) ((Hhead.o n).2 ⟨rfl,h0,h200,rfl⟩);have HF2:=Aa (HF.o.trans (Qli (c:=d) (vl:=vl) (td:=td) Hst0.o Hok.o));clear Hno Hhead HF;have Hkd:=Aa (fun W=>S7 d W ld);have Hkok:=Aa (fun k (h:C4 d=some k)=>(Fr.1 h).1);generalize C4 d=ok at HF2 Hkd Hkok;go_wp2_with fail;refine(Hkd.o _).mono ?_;rintro e w5 ⟨hcase,hb5⟩;have HT5:=@Aa (w5.there w 0 6) (Bc HT4.o aG hb5);have HR5:=@Aa (w5.rangeAt w2 0 _) (Au HR4.o hz4 hb5);have HK5:=@Aa (w5.there w2 0 6) (Bc HK4.o hz4 hb5);have Hb5:=Aa (Hb4.o.trans (hb5.mono Hb4.o.size));have hz5:w2.heap.size<w5.heap.size:=ac hz4 hb5.size;clear hb5;cases ok with
    |none=>
     obtain⟨a1,a2,a3,rfl⟩:=hcase;go_wp2_with (first|((with_reducible refine Ad (op:=⟨none,.store 39 _ _,_,_,_,none⟩) rfl 39 _ _ rfl w2 2 [.string a1,.string a2,.string a3] ?_ ?_ ?_ ?_ ?_ ?_);rfl;rfl;(exact N8 HK5.o 2 3 aJ aJ);kernel_rfl;(simp[Value.oneCell']);intro w6 HS6;have HT6:=@Aa (w6.there w 0 6) (HS6.o ▸ ai HT5.o _ _ _);have HR6:=@Aa (w6.rangeAt w2 0 [(n:Int),b,.string a1,.string a2,.string a3,vl]) (HS6.o ▸ Dr [(n:Int),b] [aa,aa,aa] [vl] [.string a1,.string a2,.string a3] HR5.o rfl);have Hb6:=@Aa (Below w w w6) (HS6.o ▸ Ao _ (Nat.le_of_lt hzz) _ _ _ Hb5.o);have hz6:w2.heap.size<w6.heap.size:=dL;have z2:w6.cell? (w2,2)=some (.string a1):=dj;have z3:w6.cell? (w2,3)=some (.string a2):=dm;clear HT5 HR5 HK5 HS6)|((with_reducible refine Ad (op:=⟨none,.store 85 _ _,_,_,_,none⟩) rfl 85 _ _ rfl w 0 [.int .i64 0,aa,aa,aa,aa,aa] ?_ ?_ ?_ ?_ ?_ ?_);rfl;rfl;(first|exact aq HT6.o _|exact HT6.o);kernel_rfl;(simp[Value.oneCell']);intro w9 HS9))
     have HZ:=@Aa (w9.rangeAt w 0 [.int .i64 0,aa,aa,aa,aa,aa]) ch;refine aE (v:=.tuple #[.agg ([.int .i64 0,aa,aa,aa,aa,aa]:List Value).toArray,.bool false]) ?_ rfl ?_
     ·exact iF
     exact Em.no HF2.o rfl bH
    |some k=>
     have hcase':e=.returned (.tuple #[.agg #[k.signs,k.base,k.name],.bool true]):=hcase;subst hcase';clear hcase;have Hkk:=Aa (Hkok.o k rfl);have HF3:=@Aa (Jx st s=if td=true/\¬(st=82/\k.signs=[]/\Cf k.base vl=true)then none else some ⟨n,b,k,vl⟩) HF2.o;clear HF2 Hkok;cases td with
     |false=>
      go_wp2_with (first|((with_reducible refine Ad (op:=⟨none,.store 39 _ _,_,_,_,none⟩) rfl 39 _ _ rfl w2 2 [k.signs,k.base,k.name] ?_ ?_ ?_ ?_ ?_ ?_);rfl;rfl;(exact N8 HK5.o 2 3 aJ aJ);kernel_rfl;(simp[Value.oneCell']);intro w6 HS6;have HT6:=@Aa (w6.there w 0 6) (HS6.o ▸ ai HT5.o _ _ _);have HR6:=@Aa (w6.rangeAt w2 0 [(n:Int),b,k.signs,k.base,k.name,vl]) (HS6.o ▸ Dr [(n:Int),b] [aa,aa,aa] [vl] [k.signs,k.base,k.name] HR5.o rfl);have Hb6:=@Aa (Below w w w6) (HS6.o ▸ Ao _ (Nat.le_of_lt hzz) _ _ _ Hb5.o);have hz6:w2.heap.size<w6.heap.size:=dL;have z2:w6.cell? (w2,2)=k.signs:=dj;have z3:w6.cell? (w2,3)=k.base:=dm;clear HT5 HR5 HK5 HS6)|((with_reducible refine Ad (op:=⟨none,.store 85 _ _,_,_,_,none⟩) rfl 85 _ _ rfl w 0 [(n:Int),b,k.signs,k.base,k.name,vl] ?_ ?_ ?_ ?_ ?_ ?_);rfl;rfl;(first|exact aq HT6.o _|exact HT6.o);kernel_rfl;(simp[Value.oneCell']);intro w9 HS9)|((with_reducible refine wpList_load_mid (op:=⟨_,.load 85 _,_,_,_,none⟩) rfl 85 _ rfl w2 0 ?_ [(n:Int),b,k.signs,k.base,k.name,vl] _ HR6.o underlying85 ?_ ?_ ?_);rfl;rfl;kernel_rfl))
      have HZ:=@Aa (w9.rangeAt w 0 [(n:Int),b,k.signs,k.base,k.name,vl]) ch;refine aE (v:=.tuple #[.agg ([(n:Int),b,k.signs,k.base,k.name,vl]:List Value).toArray,.bool true]) ?_ rfl ?_
      ·exact jK
      exact Em.yes (HF3.o.trans (if_neg aL)) rfl bH
     |true=>
      rcases Decidable.em (st=82)with h82|h82
      ·have n82:((st.toNat:Int) != 82)=false:=Nm (c:=st) (d:=82) h82;rcases Decidable.em (k.signs=[])with hsg|hsg
       ·have hsg1:(k.signs != [])=false:=cW;have hsg2:k.signs.isEmpty=true:=cW;have hsg3:(!k.signs.isEmpty)=false:=cW;have hbl:=Qfn Hkk.o.2.1;have Hst:=Aa (fun W=>Qbr k.base vl W hbl aG)
        have Hst2:=Aa (show Jx st s=if Cf k.base vl=true then some ⟨n,b,k,vl⟩else none from by
         rw[HF3.o];by_cases hh:Cf k.base vl=true
         ·rw[if_neg (by simp[h82,hsg,hh]),if_pos hh]
         rw[if_pos (by simp[hh]),if_neg hh])
        generalize Cf k.base vl=sb at Hst Hst2;clear hsg h82 hbl;go_wp2_with ((with_reducible refine Ad (op:=⟨none,.store 39 _ _,_,_,_,none⟩) rfl 39 _ _ rfl w2 2 [k.signs,k.base,k.name] ?_ ?_ ?_ ?_ ?_ ?_);rfl;rfl;(exact N8 HK5.o 2 3 aJ aJ);kernel_rfl;(simp[Value.oneCell']);intro w6 HS6;have HT6:=@Aa (w6.there w 0 6) (HS6.o ▸ ai HT5.o _ _ _);have HR6:=@Aa (w6.rangeAt w2 0 [(n:Int),b,k.signs,k.base,k.name,vl]) (HS6.o ▸ Dr [(n:Int),b] [aa,aa,aa] [vl] [k.signs,k.base,k.name] HR5.o rfl);have Hb6:=@Aa (Below w w w6) (HS6.o ▸ Ao _ (Nat.le_of_lt hzz) _ _ _ Hb5.o);have hz6:w2.heap.size<w6.heap.size:=dL;have z2:w6.cell? (w2,2)=k.signs:=dj;have z3:w6.cell? (w2,3)=k.base:=dm;clear HT5 HR5 HK5 HS6)
        refine(Hst.o _).mono ?_;rintro e w7 ⟨rfl,hb7⟩;have HT7:=@Aa (w7.there w 0 6) (Bc HT6.o aG hb7);have HR7:=@Aa (w7.rangeAt w2 0 _) (Au HR6.o hz6 hb7);have Hb7:=Aa (Hb6.o.trans (hb7.mono Hb6.o.size));clear hb7 z2 z3;cases sb with
        |true=>
         go_wp2_with (first|((with_reducible refine Ad (op:=⟨none,.store 85 _ _,_,_,_,none⟩) rfl 85 _ _ rfl w 0 [(n:Int),b,k.signs,k.base,k.name,vl] ?_ ?_ ?_ ?_ ?_ ?_);rfl;rfl;(first|exact aq HT7.o _|exact HT7.o);kernel_rfl;(simp[Value.oneCell']);intro w9 HS9)|((with_reducible refine wpList_load_mid (op:=⟨_,.load 85 _,_,_,_,none⟩) rfl 85 _ rfl w2 0 ?_ [(n:Int),b,k.signs,k.base,k.name,vl] _ HR7.o underlying85 ?_ ?_ ?_);rfl;rfl;kernel_rfl))
         have HZ:=@Aa (w9.rangeAt w 0 [(n:Int),b,k.signs,k.base,k.name,vl]) ff;refine aE (v:=.tuple #[.agg ([(n:Int),b,k.signs,k.base,k.name,vl]:List Value).toArray,.bool true]) ?_ rfl ?_
         ·exact jK
         exact Em.yes (Hst2.o.trans (if_pos aL)) rfl dG
        |false=>
         go_wp2_with ((with_reducible refine Ad (op:=⟨none,.store 85 _ _,_,_,_,none⟩) rfl 85 _ _ rfl w 0 [.int .i64 0,aa,aa,aa,aa,aa] ?_ ?_ ?_ ?_ ?_ ?_);rfl;rfl;(first|exact aq HT7.o _|exact HT7.o);kernel_rfl;(simp[Value.oneCell']);intro w9 HS9)
         have HZ:=@Aa (w9.rangeAt w 0 [.int .i64 0,aa,aa,aa,aa,aa]) ff;refine aE (v:=.tuple #[.agg ([.int .i64 0,aa,aa,aa,aa,aa]:List Value).toArray,.bool false]) ?_ rfl ?_
         ·exact iF
         exact Em.no (Hst2.o.trans (if_neg aJ)) rfl dG
       have hsg1:(k.signs != [])=true:=cW;have hsg2:k.signs.isEmpty=false:=cW;have hsg3:(!k.signs.isEmpty)=true:=cW;have Hw:=Aa (HF3.o.trans (if_pos ⟨rfl,fun h=>hsg h.2.1⟩));clear hsg h82;go_wp2_with (first|((with_reducible refine Ad (op:=⟨none,.store 39 _ _,_,_,_,none⟩) rfl 39 _ _ rfl w2 2 [k.signs,k.base,k.name] ?_ ?_ ?_ ?_ ?_ ?_);rfl;rfl;(exact N8 HK5.o 2 3 aJ aJ);kernel_rfl;(simp[Value.oneCell']);intro w6 HS6;have HT6:=@Aa (w6.there w 0 6) (HS6.o ▸ ai HT5.o _ _ _);have HR6:=@Aa (w6.rangeAt w2 0 [(n:Int),b,k.signs,k.base,k.name,vl]) (HS6.o ▸ Dr [(n:Int),b] [aa,aa,aa] [vl] [k.signs,k.base,k.name] HR5.o rfl);have Hb6:=@Aa (Below w w w6) (HS6.o ▸ Ao _ (Nat.le_of_lt hzz) _ _ _ Hb5.o);have hz6:w2.heap.size<w6.heap.size:=dL;have z2:w6.cell? (w2,2)=k.signs:=dj;have z3:w6.cell? (w2,3)=k.base:=dm;clear HT5 HR5 HK5 HS6)|((with_reducible refine Ad (op:=⟨none,.store 85 _ _,_,_,_,none⟩) rfl 85 _ _ rfl w 0 [.int .i64 0,aa,aa,aa,aa,aa] ?_ ?_ ?_ ?_ ?_ ?_);rfl;rfl;(first|exact aq HT6.o _|exact HT6.o);kernel_rfl;(simp[Value.oneCell']);intro w9 HS9))
       have HZ:=@Aa (w9.rangeAt w 0 [.int .i64 0,aa,aa,aa,aa,aa]) ch;refine aE (v:=.tuple #[.agg ([.int .i64 0,aa,aa,aa,aa,aa]:List Value).toArray,.bool false]) ?_ rfl ?_
       ·exact iF
       exact Em.no Hw.o rfl bH
      have n82:((st.toNat:Int) != 82)=true:=Qh (c:=st) (d:=82) h82;have Hw:=Aa (HF3.o.trans (if_pos ⟨rfl,fun h=>h82 h.1⟩));clear h82;go_wp2_with (first|((with_reducible refine Ad (op:=⟨none,.store 39 _ _,_,_,_,none⟩) rfl 39 _ _ rfl w2 2 [k.signs,k.base,k.name] ?_ ?_ ?_ ?_ ?_ ?_);rfl;rfl;(exact N8 HK5.o 2 3 aJ aJ);kernel_rfl;(simp[Value.oneCell']);intro w6 HS6;have HT6:=@Aa (w6.there w 0 6) (HS6.o ▸ ai HT5.o _ _ _);have HR6:=@Aa (w6.rangeAt w2 0 [(n:Int),b,k.signs,k.base,k.name,vl]) (HS6.o ▸ Dr [(n:Int),b] [aa,aa,aa] [vl] [k.signs,k.base,k.name] HR5.o rfl);have Hb6:=@Aa (Below w w w6) (HS6.o ▸ Ao _ (Nat.le_of_lt hzz) _ _ _ Hb5.o);have hz6:w2.heap.size<w6.heap.size:=dL;have z2:w6.cell? (w2,2)=k.signs:=dj;have z3:w6.cell? (w2,3)=k.base:=dm;clear HT5 HR5 HK5 HS6)|((with_reducible refine Ad (op:=⟨none,.store 85 _ _,_,_,_,none⟩) rfl 85 _ _ rfl w 0 [.int .i64 0,aa,aa,aa,aa,aa] ?_ ?_ ?_ ?_ ?_ ?_);rfl;rfl;(first|exact aq HT6.o _|exact HT6.o);kernel_rfl;(simp[Value.oneCell']);intro w9 HS9))
      have HZ:=@Aa (w9.rangeAt w 0 [.int .i64 0,aa,aa,aa,aa,aa]) ch;refine aE (v:=.tuple #[.agg ([.int .i64 0,aa,aa,aa,aa,aa]:List Value).toArray,.bool false]) ?_ rfl ?_
      ·exact iF
      exact Em.no Hw.o rfl bH
 have Hno:=Aa (HF.o.trans (Zv (vl:=vl) (td:=td) (st:=st) (ps:=ps) (by rw[if_neg Hst0.o];exact hlen)));have hl1:¬(ps.length:Int)=3:=aG;have hl2:((ps.length:Int) != 3)=true:=by rw[bne_iff_ne];exact hl1
 clear HF Hpl Hcells;go_wp2_with ((with_reducible refine Ad (op:=⟨none,.store 85 _ _,_,_,_,none⟩) rfl 85 _ _ rfl w 0 [.int .i64 0,aa,aa,aa,aa,aa] ?_ ?_ ?_ ?_ ?_ ?_);rfl;rfl;(first|exact aq HT.o _|exact HT.o);kernel_rfl;(simp[Value.oneCell']);intro w9 HS9)
 have HZ:=@Aa (w9.rangeAt w 0 [.int .i64 0,aa,aa,aa,aa,aa]) bq;refine aE (v:=.tuple #[.agg ([.int .i64 0,aa,aa,aa,aa,aa]:List Value).toArray,.bool false]) ?_ rfl ?_
 ·exact iF
 exact Em.no Hno.o rfl aY
theorem Qak(st:UInt8)(hst:Ee st)(s:List UInt8)(w:World)(hs:s.length<=4000000):
  Calls prog 121 #[s,.int .u8 (st.toNat:Int)] w (Em (Jx st s) w):=by
 by_cases h:st=69
 ·exact Qky st h s w hs
 exact Qji st h s w hs
def Gc(o:Option Ty)(w:World)(e:Ending)(w':World):Prop:=
 (match o with
  |some t=>∃x:PT,x.ty=t/\e=.returned (.tuple #[x.ptr,.bool true])/\w.heap.size<=x.blk/\Sv w' x/\∀k,x.fv.ownBlock=some k->w.heap.size<=k
  |none=>∃p:Option Addr,e=.returned (.tuple #[.pointer p,.bool false]))/\Below w w w'
theorem Gc.no{w w':World}{e:Ending}{o:Option Ty}(ho:o=none){p:Option Addr}(he:e=.returned (.tuple #[.pointer p,.bool false]))(hb:Below w w w'):Gc o w e w':=by
 rw[ho];exact⟨⟨p,he⟩,hb⟩
theorem Gc.yes{w w':World}{e:Ending}{o:Option Ty}{t:Ty}(ho:o=some t){b:Nat}{fv:Value}(he:e=.returned (.tuple #[b,.bool true]))(hwb:w.heap.size<=b)(ht:Sv w' ⟨t,b,fv⟩)(hf:∀k,fv.ownBlock=some k->w.heap.size<=k)(hb:Below w w w'):Gc o w e w':=by
 rw[ho];exact⟨⟨⟨t,b,fv⟩,rfl,he,hwb,ht,hf⟩,hb⟩
theorem Zd(c:UInt8):decide (c∈([82,85,69]:List UInt8))=decide (Ee c):=by
 rw[decide_eq_decide];unfold Ee;simp
theorem Qik(w:World):Calls prog 90 #[aa] w (Gc (Fh []) w):=by
 go_enter func90,ntmps90;go_wp2_with fail;go_ret2;exact Gc.no rfl rfl (Aw _ _)
theorem Qfs(c:UInt8)(r:List UInt8)(w:World)(hs:r.length<=3999999)(hc:¬Ee c):Calls prog 90 #[.string ⟨(c::r).toArray⟩] w (Gc (Fh (c::r)) w):=by
 have HF:=Aa (show Fh (c::r)=none by unfold Fh;simp only;rw[if_pos (.inl hc)])
 have Hc:=Aa (fun W=>(show Calls prog 119 #[.string ⟨#[82,85,69]⟩,.string ⟨#[c]⟩] W fun e w'=>e=.returned (.bool false)/\W=w' from by
  have:=Ps [82,85,69] c W;rw[Zd,aB hc]at this;exact this))
 clear hc;go_enter func90,ntmps90;go_wp2_with fail;refine(Hc.o _).mono ?_;rintro e w' ⟨rfl,rfl⟩;go_wp2_with fail;go_ret2;exact Gc.no HF.o rfl (Aw _ _)
theorem Qfu(c:UInt8)(r:List UInt8)(w:World)(hs:r.length<=3999999)(hc:Ee c)(h:(Ds 61 r).2.2=false\/Bf (Ds 61 r).1=false\/(Ds 61 r).2.1=[]):Calls prog 90 #[.string ⟨(c::r).toArray⟩] w (Gc (Fh (c::r)) w):=by
 have HF:=Aa (show Fh (c::r)=if (Ds 61 r).2.2=false\/Bf (Ds 61 r).1=false then none else(if c=82 then some ⟨c,(Ds 61 r).1,[]⟩else none)by
  unfold Fh;simp only;by_cases h1:(Ds 61 r).2.2=false\/Bf (Ds 61 r).1=false
  ·rw[if_pos (.inr h1),if_pos h1]
  have h2:(Ds 61 r).2.1=[]:=by
   rcases h with h|h|h
   ·exact absurd (.inl h) h1
   ·exact absurd (.inr h) h1
   exact h
  rw[if_neg (fun h3=>h3.elim (fun h3=>h3 hc) h1),if_neg h1,if_pos h2])
 have Hc:=Aa (fun W=>(show Calls prog 119 #[.string ⟨#[82,85,69]⟩,.string ⟨#[c]⟩] W fun e w'=>e=.returned (.bool true)/\W=w' from by
  have:=Ps [82,85,69] c W;rw[Zd,aC hc]at this;exact this))
 have Hl:=Aa (fun(f:(Ds 61 r).2.2=true/\(Ds 61 r).2.1=[])=>show tyB ⟨c,(Ds 61 r).1,[]⟩=c::r from by
  rcases Gp 61 r with⟨_,e⟩|⟨p,t,e1,_,e⟩
  ·rw[e]at f;cases f.1
  rw[e]at f ⊢;simp only at f;have:=f.2;subst this;rw[e1];rfl)
 have Hcut:=Aa (fun W=>Tf r 61 W aG);have hcl:=(My 61 r).1;generalize Ds 61 r=q at *;obtain⟨nm,rest,told⟩:=q;simp only at hcl HF h Hl;have Hh:=Aa h;have Hc82:=Aa hc;clear hc h;go_enter func90,ntmps90;go_wp2_with fail;refine(Hc.o _).mono ?_;rintro e w' ⟨rfl,rfl⟩;go_wp2_with fail;refine(Hcut.o _).mono ?_;rintro e w1 ⟨rfl,k1,rfl⟩;unfold Qei;cases told with
 |false=>
  go_wp2_with fail;go_ret2;exact Gc.no (HF.o.trans (if_pos aL)) rfl (below_drewN (Aw _ _) _)
 |true=>
  have Hname:=Aa (fun W=>M4 nm W aG);generalize hnb:Bf nm=nb at *;have Hnb:=Aa hnb;clear hnb;go_wp2_with fail;refine(Hname.o _).mono ?_;rintro e w2 ⟨rfl,hb2⟩;have Hb2:=@Aa (Below w w w2) ((below_drewN (Aw _ _) k1).trans (by simpa using hb2));clear hb2;cases nb with
  |false=>
   go_wp2_with fail;go_ret2;exact Gc.no (HF.o.trans (if_pos aL)) rfl Hb2.o
  |true=>
   obtain rfl:rest=[]:=by
    rcases Hh.o with h|h|h
    ·cases h
    ·cases h
    exact h
   have HF2:=Aa (HF.o.trans (if_neg aL));have Hl2:=Aa (Hl.o aL);have hz:=Hb2.o.size;rcases Decidable.em (c=82)with h82|h82
   ·have t1:((c.toNat:Int) == 82)=true:=Bs (d:=82) h82;have HF3:=Aa (HF2.o.trans (if_pos h82));clear h82;go_wp2_with fail;go_quiet (fail)
    go_wp2_with fail;go_ret2;refine Gc.yes HF3.o (b:=w2.heap.size) (fv:=.slice none 0 0) rfl Hb2.o.size ?_ (fun k hk=>by simp[Value.ownBlock]at hk) dR;refine⟨by simp,by first|exact Pi.new _ _ _|exact Pi.belowAt (Pi.new w2 _ _) aL (by first|exact below_drewN (Aw _ _) _|exact(Aw _ _).drew),by simp,by simp,by simp,?_,none,0,rfl,by simp,rfl,ag _,fun h=>absurd h aL⟩;rw[Hl2.o];simp
   have t1:((c.toNat:Int) == 82)=false:=At (d:=82) h82;have HF3:=Aa (HF2.o.trans (if_neg h82));clear h82;go_wp2_with fail;go_quiet (fail)
   go_wp2_with fail;go_ret2;exact Gc.no HF3.o rfl dR
def Qmz(c:UInt8)(nm:List UInt8):Option (List Fd)->Option Ty
 |some r=>some ⟨c,nm,r⟩
 |none=>none
theorem Qb8{c:UInt8}{r nm rest:List UInt8}(hc:Ee c)(h:Ds 61 r=(nm,rest,true))(hn:Bf nm=true)(hr:rest≠[]):Fh (c::r)=Qmz c nm (Gu c (Ak 44 rest) []):=by
 unfold Fh;simp only[h];rw[if_neg (by simp[hc,hn]),if_neg hr];cases Gu c (Ak 44 rest) []<;>rfl
theorem Qbz{c:UInt8}{ps:List (List UInt8)}{acc:List Fd}{k:Nat}(hk:k<ps.length):Gu c (ps.drop k) acc=(match Jx c ps[k]with|none=>none|some f=>if acc.length=8\/H4 acc f=false then none else Gu c (ps.drop (k+1)) (acc++[f])):=by
 rw[List.drop_eq_getElem_cons hk,Gu];cases Jx c ps[k]<;>rfl
theorem Qfz{acc:List Fd}{f:Fd}(h:∀g∈acc,g.name≠f.name/\g.tag<f.tag):H4 acc f=true:=M6.2 h
theorem Qc9{acc:List Fd}{f x:Fd}(hx:x∈acc)(h:f.tag<=x.tag\/x.name=f.name):H4 acc f=false:=by
 cases hh:H4 acc f with
 |false=>rfl
 |true=>
  obtain⟨h1,h2⟩:=M6.1 hh x hx;rcases h with h|h
  ·omega
  exact absurd h h1
theorem Tv(w:World)(a:Addr)(v:Value):w.grownBy (w.setCell a v) (some a.block):=
 ⟨rfl,rfl,rfl,by simp,fun k _ hk=>Go.heap_setCell_other _ _ _ _ (fun e=>hk (by rw[e]))⟩
theorem Qbm{w:World}{base k n:Nat}{e:TypeId}{v:Value}{xs:List Value}(h:w.ownsRow base e k v n xs):∃A m c,v=.slice A m c:=by
 rcases h.2 with⟨rfl,_⟩|⟨g,cap,cur,rfl,_⟩
 ·exact⟨_,_,_,rfl⟩
 exact⟨_,_,_,rfl⟩
theorem Tryz.infoIf:(prog.info? 85).map (fun i=>(i.zero,i.size,i.bytes))=some (some (.agg #[.int .i64 0,aa,aa,aa,aa,aa]),6,88):=aM
theorem Qm8(fs:List Fd):∀y∈fs.flatMap Sp,y.oneCell'=true:=by
 intro y hy;obtain⟨f,_,hf⟩:=List.mem_flatMap.1 hy;simp[Sp]at hf;rcases hf with rfl|rfl|rfl|rfl|rfl|rfl<;>rfl
end
end Go.Proofs.YtkigmebejmmikaaGreatDoor
