/- Texts joined. Conditions: as each theorem names them. -/
import Derived.Deep.RegionWith
import Derived.Laws.Rows
import Derived.BigRegion
import Derived.BigQuiet
import Derived.Deep.QuietTactic
import Derived.Test.YtkgkoicedddkmaaGreatDoorR03
set_option maxRecDepth 100000
set_option maxHeartbeats 32000000
set_option linter.unusedVariables false
set_option linter.unusedSimpArgs false
namespace Go.Proofs.YtkgkoicedddkmaaGreatDoor
open Go.RowKit Go.Proofs.Tryz
section
attribute [local go_sem] Qiz Qii Qib Qgw ByteArray.mk_append_mk
def D2(k:Kd):Value:=.agg #[k.signs,k.base,k.name]
def H9(o:Option Kd)(w:World)(e:Ending)(w':World):Prop:=
 (match o with
  |some k=>e=.returned (.tuple #[D2 k,.bool true])
  |none=>∃(a b c:ByteArray),e=.returned (.tuple #[.agg #[.string a,.string b,.string c],.bool false]))/\Below w w w'
theorem H9.no{w w':World}{e:Ending}{o:Option Kd}(ho:o=none){a b c:ByteArray}(he:e=.returned (.tuple #[.agg #[.string a,.string b,.string c],.bool false]))(hb:Below w w w'):H9 o w e w':=by
 rw[ho];exact⟨⟨a,b,c,he⟩,hb⟩
theorem H9.yes{w w':World}{e:Ending}{o:Option Kd}{k:Kd}(ho:o=some k)(he:e=.returned (.tuple #[D2 k,.bool true]))(hb:Below w w w'):H9 o w e w':=by
 rw[ho];exact⟨he,hb⟩
theorem Qfv(c:UInt8):([91,63]:List UInt8).contains c=Bo c:=by
 have:=Pn (p:=fun c=>([91,63]:List UInt8).contains c == Bo c) fG c;simpa using this
theorem Qer(s:List UInt8):s.dropWhile (([91,63]:List UInt8).contains ·)=s.dropWhile Bo:=by
 congr 1;funext c;exact Qfv c
theorem P9(r:List UInt8)(c:UInt8):Lib.hasSuffix r [c]=decide (r.getLast?=some c):=by
 rcases Ej r with rfl|⟨t,d,rfl⟩
 ·rfl
 unfold Lib.hasSuffix List.isSuffixOf;rw[List.reverse_append,List.getLast?_append];by_cases h:c=d
 ·subst h;simp[List.isPrefixOf]
 have h':d≠c:=fun e=>h e.symm;simp[List.isPrefixOf,h,h']
theorem Qbe(s:List UInt8)(h:s.length<=12):∃g r,s=g++r/\s.dropWhile Bo=r /\
  ((∃b,(b=110\/b=116\/b=102)/\r=[b]/\Co s=some ⟨g,r,[]⟩) \/
   (∃nm,r=64::(nm++[59])/\Co s=if Aw nm=true then some ⟨g,[64],nm⟩else none) \/
   ((r == [110])=false/\(r == [116])=false/\(r == [102])=false/\(r.head?≠some 64\/(r.head?=some 64/\r.getLast?≠some 59))/\Co s=none)):=by
 refine⟨s.takeWhile Bo,s.dropWhile Bo,List.takeWhile_append_dropWhile.symm,rfl,?_⟩;unfold Co;rw[if_neg aH];by_cases h1:s.dropWhile Bo=[110]\/s.dropWhile Bo=[116]\/s.dropWhile Bo=[102]
 ·left;rw[if_pos h1];rcases h1 with h|h|h
  ·exact⟨110,by simp,h,rfl⟩
  ·exact⟨116,by simp,h,rfl⟩
  exact⟨102,by simp,h,rfl⟩
 right;rw[if_neg h1];simp only[not_or]at h1;by_cases h2:(s.dropWhile Bo).head?=some 64
 ·by_cases h3:(s.dropWhile Bo).getLast?=some 59
  ·left;have e:=Qc5 h2 h3;refine⟨((s.dropWhile Bo).drop 1).dropLast,e,?_⟩;by_cases h4:Aw ((s.dropWhile Bo).drop 1).dropLast=true
   ·rw[if_pos ⟨h2,h3,h4⟩,if_pos h4]
   rw[if_neg (fun h=>h4 h.2.2),if_neg h4]
  right;refine⟨by simpa using h1.1,by simpa using h1.2.1,by simpa using h1.2.2,.inr ⟨h2,h3⟩,?_⟩;rw[if_neg (fun h=>h3 h.2.1)]
 right;refine⟨by simpa using h1.1,by simpa using h1.2.1,by simpa using h1.2.2,.inl h2,?_⟩;rw[if_neg (fun h=>h2 h.1)]
theorem Q7(s:List UInt8)(w:World)(hs:s.length<=4000000):
  Calls prog 73 #[s] w (H9 (Co s) w):=by
 rcases aG 12 s.length with h12|h12
 ·have Hn:=Aa (show Co s=none by unfold Co;rw[if_pos h12]);go_enter func73,ntmps73;go_wp2_with fail;refine aF (v:=.tuple #[.agg #[a8,a8,a8],.bool false]) (by simp[results,results73,go_sem]) rfl ?_;exact H9.no Hn.o rfl ((Aq _ _).alloc (Ap _) _)
 obtain⟨g,r,hsr,hr,hcase⟩:=Qbe s h12;have hT:=fun W=>Nj s [91,63] W aK aK;simp only[Qer,hr]at hT;have HT:=Aa hT;have hl:s.length=g.length+r.length:=by rw[hsr];simp
 have Htk:=Aa (show s.take (s.length - r.length)=g by rw[hl,hsr];simp);have k1:(0:Int)<=(s.length:Int) - (r.length:Int):=aH;have k2:(s.length:Int) - (r.length:Int)<=(s.length:Int):=aH;have k3:((s.length:Int) - (r.length:Int)).toNat=s.length - r.length:=aH;have hr12:r.length<=12:=aH;have hl1:r.length<=s.length:=aH;clear hT hr hl hsr;rcases hcase with⟨b,hb,rfl,hk⟩|⟨nm,rfl,hk⟩|⟨q1,q2,q3,hh,hk⟩
 ·have h1:1<=s.length:=by simp at hl1;omega
  have Hg:=Aa (show s.take (s.length - 1)=g by simpa using Htk.o);have Hk:=Aa hk;clear hk k1 k2 k3;rcases hb with rfl|rfl|rfl
  ·go_enter func73,ntmps73;go_wp2_with fail;refine(HT.o _).mono ?_;rintro e w1 ⟨rfl,hb⟩;obtain⟨hc,hfz,hz⟩:=By hb;have hzz:=hz w.heap.size aL;have hn1:¬(w1.heap.size=w.heap.size):=aH;have hn2:¬(w.heap.size=w1.heap.size):=aH;have Hb:=Aa (((Aq w.heap.size w).alloc (Ap _) _).trans (hb.mono aL));have u0:w1.cell? (w,0)=a8:=gI;have u1:w1.cell? (w,1)=a8:=gJ;have u2:w1.cell? (w,2)=a8:=gK;have fu:∀j,w1.frozen? ⟨w.heap.size,j,none⟩=false:=fun j=>gF;clear hb hc hfz hz;go_wp2_with fail;refine aF (v:=.tuple #[.agg #[.string ⟨(s.take (s.length - 1)).toArray⟩,.string ⟨#[110]⟩,a8],.bool true]) (by simp[results,results73,go_sem,u0,u1,u2,fu,hn1,hn2,hzz]) rfl ?_;exact H9.yes Hk.o fX aW
  ·go_enter func73,ntmps73;go_wp2_with fail;refine(HT.o _).mono ?_;rintro e w1 ⟨rfl,hb⟩;obtain⟨hc,hfz,hz⟩:=By hb;have hzz:=hz w.heap.size aL;have hn1:¬(w1.heap.size=w.heap.size):=aH;have hn2:¬(w.heap.size=w1.heap.size):=aH;have Hb:=Aa (((Aq w.heap.size w).alloc (Ap _) _).trans (hb.mono aL));have u0:w1.cell? (w,0)=a8:=gI;have u1:w1.cell? (w,1)=a8:=gJ;have u2:w1.cell? (w,2)=a8:=gK;have fu:∀j,w1.frozen? ⟨w.heap.size,j,none⟩=false:=fun j=>gF;clear hb hc hfz hz;go_wp2_with fail;refine aF (v:=.tuple #[.agg #[.string ⟨(s.take (s.length - 1)).toArray⟩,.string ⟨#[116]⟩,a8],.bool true]) (by simp[results,results73,go_sem,u0,u1,u2,fu,hn1,hn2,hzz]) rfl ?_;exact H9.yes Hk.o fX aW
  go_enter func73,ntmps73;go_wp2_with fail;refine(HT.o _).mono ?_;rintro e w1 ⟨rfl,hb⟩;obtain⟨hc,hfz,hz⟩:=By hb;have hzz:=hz w.heap.size aL;have hn1:¬(w1.heap.size=w.heap.size):=aH;have hn2:¬(w.heap.size=w1.heap.size):=aH;have Hb:=Aa (((Aq w.heap.size w).alloc (Ap _) _).trans (hb.mono aL));have u0:w1.cell? (w,0)=a8:=gI;have u1:w1.cell? (w,1)=a8:=gJ;have u2:w1.cell? (w,2)=a8:=gK;have fu:∀j,w1.frozen? ⟨w.heap.size,j,none⟩=false:=fun j=>gF;clear hb hc hfz hz;go_wp2_with fail;refine aF (v:=.tuple #[.agg #[.string ⟨(s.take (s.length - 1)).toArray⟩,.string ⟨#[102]⟩,a8],.bool true]) (by simp[results,results73,go_sem,u0,u1,u2,fu,hn1,hn2,hzz]) rfl ?_;exact H9.yes Hk.o fX aW
 ·have h1:nm.length+2<=s.length:=by simp at hl1;omega
  have Hg:=Aa (show s.take (s.length - (nm.length+1+1))=g by simpa using Htk.o);have hnl:nm.length<=12:=aH;have hmid:(nm++[59]).take nm.length=nm:=aL;have Hn:=Aa (fun W=>Ke nm W aH);have hp:([64]:List UInt8).isPrefixOf (64::(nm++[59]))=true:=rfl;have hs:Lib.hasSuffix (64::(nm++[59])) [59]=true:=by
   rw[P9,show (64:UInt8)::(nm++[59])=(64::nm)++[59]from rfl,List.getLast?_append];rfl
  have Hp:=Aa (fun W=>P8 (64::(nm++[59])) [64] W);have Hs:=Aa (fun W=>P4 (64::(nm++[59])) [59] W aM);rw[hp]at Hp;rw[hs]at Hs;clear hp hs k1 k2 k3;rcases Bool.eq_false_or_eq_true (Aw nm)with hnm|hnm
  ·rw[if_pos hnm]at hk;rw[hnm]at Hn;have Hk:=Aa hk;clear hk hnm;go_enter func73,ntmps73;go_wp2_with fail;refine(HT.o _).mono ?_;rintro e w1 ⟨rfl,hb⟩;obtain⟨hc,hfz,hz⟩:=By hb;have hzz:=hz w.heap.size aL;have hn1:¬(w1.heap.size=w.heap.size):=aH;have hn2:¬(w.heap.size=w1.heap.size):=aH;have Hb:=Aa (((Aq w.heap.size w).alloc (Ap _) _).trans (hb.mono aL));have u0:w1.cell? (w,0)=a8:=gI;have u1:w1.cell? (w,1)=a8:=gJ;have u2:w1.cell? (w,2)=a8:=gK;have fu:∀j,w1.frozen? ⟨w.heap.size,j,none⟩=false:=fun j=>gF;clear hb hc hfz hz;go_wp2_with fail;refine(Hp.o _).mono ?_;rintro e w2 ⟨rfl,rfl⟩;go_wp2_with fail;refine(Hs.o _).mono ?_;rintro e w2 ⟨rfl,rfl⟩;go_wp2_with fail;go_region_with (go_at_call 103;refine(Hn.o _).mono ?_;rintro e w' ⟨rfl,hb6⟩;obtain⟨hc6,hfz6,hz6⟩:=By hb6;have y0:w'.cell? (w,0)=a8:=fm;have y1:w'.cell? (w,1)=a8:=fq;have y2:w'.cell? (w,2)=a8:=fr;have y6:=hz6 w.heap.size aM)
   all_goals
    go_wp2
    refine aF (v:=.tuple #[.agg #[.string ⟨(s.take (s.length - (nm.length+1+1))).toArray⟩,.string ⟨#[64]⟩,nm],.bool true]) (by simp[results,results73,go_sem,u0,u1,u2,fu,hn1,hn2,hzz,y0,y1,y2]) rfl ?_;exact H9.yes Hk.o fX bQ
  rw[if_neg (by rw[hnm];decide)]at hk;rw[hnm]at Hn;have Hk:=Aa hk;clear hk hnm;go_enter func73,ntmps73;go_wp2_with fail;refine(HT.o _).mono ?_;rintro e w1 ⟨rfl,hb⟩;obtain⟨hc,hfz,hz⟩:=By hb;have hzz:=hz w.heap.size aL;have hn1:¬(w1.heap.size=w.heap.size):=aH;have hn2:¬(w.heap.size=w1.heap.size):=aH;have Hb:=Aa (((Aq w.heap.size w).alloc (Ap _) _).trans (hb.mono aL));have u0:w1.cell? (w,0)=a8:=gI;have u1:w1.cell? (w,1)=a8:=gJ;have u2:w1.cell? (w,2)=a8:=gK;have fu:∀j,w1.frozen? ⟨w.heap.size,j,none⟩=false:=fun j=>gF;clear hb hc hfz hz;go_wp2_with fail;refine(Hp.o _).mono ?_;rintro e w2 ⟨rfl,rfl⟩;go_wp2_with fail;refine(Hs.o _).mono ?_;rintro e w2 ⟨rfl,rfl⟩;go_wp2_with fail;go_region_with (go_at_call 103;refine(Hn.o _).mono ?_;rintro e w' ⟨rfl,hb6⟩;obtain⟨hc6,hfz6,hz6⟩:=By hb6;have y0:w'.cell? (w,0)=a8:=fm;have y1:w'.cell? (w,1)=a8:=fq;have y2:w'.cell? (w,2)=a8:=fr;have y6:=hz6 w.heap.size aM)
  all_goals
   go_wp2
   refine aF (v:=.tuple #[.agg #[.string ⟨(s.take (s.length - (nm.length+1+1))).toArray⟩,.string ⟨#[64]⟩,nm],.bool false]) (by simp[results,results73,go_sem,u0,u1,u2,fu,hn1,hn2,hzz,y0,y1,y2]) rfl ?_;exact H9.no Hk.o rfl bQ
 have Hp:=Aa (fun W=>P8 r [64] W);have Hs:=Aa (fun W=>P4 r [59] W aH);have Hk:=Aa hk;have q1':¬(r=[110]):=by simpa using q1
 have q2':¬(r=[116]):=by simpa using q2
 have q3':¬(r=[102]):=by simpa using q3
 clear hk k1 k2 k3;rcases hh with hh|⟨hh,hl2⟩
 ·have hp:([64]:List UInt8).isPrefixOf r=false:=by
   cases r with
   |nil=>rfl
   |cons c r=>simp at hh;simp[List.isPrefixOf];exact fun e=>hh e.symm
  rw[hp]at Hp;clear hp hh;go_enter func73,ntmps73;go_wp2_with fail;refine(HT.o _).mono ?_;rintro e w1 ⟨rfl,hb⟩;obtain⟨hc,hfz,hz⟩:=By hb;have hzz:=hz w.heap.size aL;have hn1:¬(w1.heap.size=w.heap.size):=aH;have hn2:¬(w.heap.size=w1.heap.size):=aH;have Hb:=Aa (((Aq w.heap.size w).alloc (Ap _) _).trans (hb.mono aL));have u0:w1.cell? (w,0)=a8:=gI;have u1:w1.cell? (w,1)=a8:=gJ;have u2:w1.cell? (w,2)=a8:=gK;have fu:∀j,w1.frozen? ⟨w.heap.size,j,none⟩=false:=fun j=>gF;clear hb hc hfz hz;go_wp2_with fail;refine(Hp.o _).mono ?_;rintro e w2 ⟨rfl,rfl⟩;go_wp2_with fail;refine aF (v:=.tuple #[.agg #[a8,a8,a8],.bool false]) (by simp[results,results73,go_sem,u0,u1,u2,fu,hn1,hn2,hzz]) rfl ?_;exact H9.no Hk.o rfl aW
 have hp:([64]:List UInt8).isPrefixOf r=true:=by
  cases r with
  |nil=>simp at hh
  |cons c r=>simp at hh;subst hh;rfl
 have hs:Lib.hasSuffix r [59]=false:=by rw[P9];simpa using hl2
 rw[hp]at Hp;rw[hs]at Hs;clear hp hs hh hl2;go_enter func73,ntmps73;go_wp2_with fail;refine(HT.o _).mono ?_;rintro e w1 ⟨rfl,hb⟩;obtain⟨hc,hfz,hz⟩:=By hb;have hzz:=hz w.heap.size aL;have hn1:¬(w1.heap.size=w.heap.size):=aH;have hn2:¬(w.heap.size=w1.heap.size):=aH;have Hb:=Aa (((Aq w.heap.size w).alloc (Ap _) _).trans (hb.mono aL));have u0:w1.cell? (w,0)=a8:=gI;have u1:w1.cell? (w,1)=a8:=gJ;have u2:w1.cell? (w,2)=a8:=gK;have fu:∀j,w1.frozen? ⟨w.heap.size,j,none⟩=false:=fun j=>gF;clear hb hc hfz hz;go_wp2_with fail;refine(Hp.o _).mono ?_;rintro e w2 ⟨rfl,rfl⟩;go_wp2_with fail;refine(Hs.o _).mono ?_;rintro e w2 ⟨rfl,rfl⟩;go_wp2_with fail;refine aF (v:=.tuple #[.agg #[a8,a8,a8],.bool false]) (by simp[results,results73,go_sem,u0,u1,u2,fu,hn1,hn2,hzz]) rfl ?_;exact H9.no Hk.o rfl aW
end
def Qz(f:Fd):List Value:=[(f.tag:Int),f.name,f.kind.signs,f.kind.base,f.kind.name,f.given]
def ifV(f:Fd):Value:=.agg #[(f.tag:Int),f.name,f.kind.signs,f.kind.base,f.kind.name,f.given]
theorem Qc9(f:Fd):(Qz f).length=6:=rfl
def Pv(w:World)(v:Value)(fs:List Fd):Prop:=∃A c,v=.slice A fs.length c/\fs.length<=8/\B9 w A (fs.length*6) (fs.flatMap Qz)
theorem Pv.below{w w':World}{v:Value}{fs:List Fd}(h:Pv w v fs)(hb:Below w w w'):Pv w' v fs:=by
 obtain⟨A,c,e,hl,hr⟩:=h;exact⟨A,c,e,hl,hr.below hb⟩
theorem Pv.at_{w:World}{A:Option Addr}{fs:List Fd}(hr:B9 w A (fs.length*6) (fs.flatMap Qz)){i:Nat}(hi:i<fs.length):
  ∃b off,A=some ⟨b,off,none⟩/\b<w.heap.size/\w.cell? ⟨b,off+i*6,none⟩=some (.int .i64 (fs[i].tag:Int))/\w.cell? ⟨b,off+i*6+1,none⟩=some (.string ⟨fs[i].name.toArray⟩) /\
   w.cell? ⟨b,off+i*6+2,none⟩=some (.string ⟨fs[i].kind.signs.toArray⟩)/\w.cell? ⟨b,off+i*6+3,none⟩=some (.string ⟨fs[i].kind.base.toArray⟩) /\
   w.cell? ⟨b,off+i*6+4,none⟩=some (.string ⟨fs[i].kind.name.toArray⟩)/\w.cell? ⟨b,off+i*6+5,none⟩=some (.string ⟨fs[i].given.toArray⟩):=by
 obtain⟨b,off,e,hlt,hc⟩:=hr.elem Qc9 aK hi;refine⟨b,off,e,hlt,?_,?_,?_,?_,?_,?_⟩
 ·exact jN
 ·exact jr
 ·exact jE
 ·have:=hc 3 _ rfl;simpa [Nat.add_assoc]using this
 ·have:=hc 4 _ rfl;simpa [Nat.add_assoc]using this
 have:=hc 5 _ rfl;simpa [Nat.add_assoc]using this
structure PT where
 ty:Ty
 blk:Nat
 fv:Value
def Pf(w:World)(b:Nat):Prop:=∃cs t,w.heap[b]?=some (.cells cs t (0,0))
theorem Pf.belowAt{B:Nat}{w w':World}{b:Nat}(h:Pf w b)(hb:b<B)(hw:Below B w w'):Pf w' b:=by
 obtain⟨cs,t,h⟩:=h;exact⟨cs,t,(hw.block b hb).trans h⟩
theorem Pf.grown{w w':World}{b:Nat}{row:Option Nat}(h:Pf w b)(hb:b<w.heap.size)(hg:w.grownBy w' row)(hne:some b≠row):Pf w' b:=by
 obtain⟨cs,t,h⟩:=h;exact⟨cs,t,(hg.block b hb hne).trans h⟩
theorem Pf.set{w:World}{b o:Nat}(h:Pf w b)(v:Value):Pf (w.setCell ⟨b,o,none⟩ v) b:=by
 obtain⟨cs,t,h⟩:=h;exact⟨_,t,heap_setCell_same w b o cs t v h⟩
theorem Pf.new(w:World)(cs:Array Value)(t:TypeId):Pf (w.alloc (.cells cs t)) w.heap.size:=⟨cs,t,heap_alloc_new w _⟩
def PT.ptr(x:PT):Value:=x.blk
def Px(w:World)(x:PT):Prop:=
 x.blk<w.heap.size/\Pf w x.blk/\w.cell? (x.blk,0)=some (.int .u8 (x.ty.sort.toNat:Int))/\w.cell? (x.blk,1)=x.ty.name/\w.cell? (x.blk,2)=some x.fv/\w.cell? (x.blk,3)=some (.string ⟨(Yc x.ty).toArray⟩)/\Pv w x.fv x.ty.fields
theorem Px.below{w w':World}{x:PT}(h:Px w x)(hb:Below w w w'):Px w' x:=by
 obtain⟨h0,hk,h1,h2,h3,h4,h5⟩:=h;obtain⟨hc,_,hz⟩:=By hb;exact⟨hz _ h0,hk.belowAt h0 hb,(hc _ _ h0).trans h1,(hc _ _ h0).trans h2,(hc _ _ h0).trans h3,(hc _ _ h0).trans h4,h5.below hb⟩
def Ae(xs:List PT):List Ty:=xs.map (·.ty)
def Ef(xs:List PT)(n:Cf):Option PT:=xs.find? fun x=>decide (x.ty.name=n)
theorem Gf(xs:List PT)(n:Cf):Bp (Ae xs) n=(Ef xs n).map (·.ty):=by
 unfold Bp Ae Ef;rw[List.find?_map];rfl
theorem Fc{xs:List PT}{n:Cf}{x:PT}(h:Ef xs n=some x):x∈xs/\x.ty.name=n/\Bp (Ae xs) n=some x.ty:=by
 refine⟨List.mem_of_find?_eq_some h,?_,by rw[Gf,h];rfl⟩;have:=List.find?_some h;simpa using this
def Xh:Option PT->Value
 |some x=>x.ptr
 |none=>.pointer none
def V0(xs:List PT)(l:Lit):Value:=match l with|.string s=>Xh (Ef xs s)|_=>.pointer none
theorem Tryz.keyStr:Go.Maps.Keyed prog 9:=Go.Maps.string_keyed underlying9
theorem Tryz.zeroPtr(w:World):(zeroValue 118).run prog w=.ok (.pointer none) w:=aO
def Pd(w:World)(mb:Nat)(xs:List PT):Prop:=Dd prog 9 (.pointer none) w mb xs.length (V0 xs)
def Q9(w:World)(p:Value)(xs:List PT):Prop:=
 ∃b A c mb,p=.pointer (some ⟨b,0,none⟩)/\b<w.heap.size/\w.cell? ⟨b,0,none⟩=some (.slice A xs.length c)/\w.cell? ⟨b,1,none⟩=some (.map (some mb))/\B9 w A xs.length (xs.map (·.ptr))/\Pd w mb xs/\(∀x∈xs,Px w x)/\xs.Pairwise fun x y=>x.blk≠y.blk
theorem Q9.below{w w':World}{p:Value}{xs:List PT}(h:Q9 w p xs)(hb:Below w w w'):Q9 w' p xs:=by
 obtain⟨b,A,c,mb,e,h0,h1,h2,h3,h4,h5,h6⟩:=h;obtain⟨hc,_,hz⟩:=By hb;exact⟨b,A,c,mb,e,hz _ h0,(hc _ _ h0).trans h1,(hc _ _ h0).trans h2,h3.below hb,Dd.below h4 hb,fun x hx=>(h5 x hx).below hb,h6⟩
theorem Qc6{n:Cf}(h:n.length<=9223372036854775807):keyOf prog 9 n=some (.string n):=by
 have:=Go.WideMaps.keyOf_string_mk (P:=prog) (k:=9) underlying9 (s:=⟨n.toArray⟩) (by unfold maxLen;exact h);simpa using this
def Dv(o:Option Fd)(w:World)(e:Ending)(w':World):Prop:=
 (match o with
  |some f=>e=.returned (.tuple #[ifV f,.bool true])
  |none=>∃(n:Int) (a b c d g:ByteArray),e=.returned (.tuple #[.agg #[.int .i64 n,.string a,.string b,.string c,.string d,.string g],.bool false]))/\Below w w w'
theorem Dv.no{w w':World}{e:Ending}{o:Option Fd}(ho:o=none){n:Int}{a b c d g:ByteArray}(he:e=.returned (.tuple #[.agg #[.int .i64 n,.string a,.string b,.string c,.string d,.string g],.bool false]))(hb:Below w w w'):Dv o w e w':=by
 rw[ho];exact⟨⟨n,a,b,c,d,g,he⟩,hb⟩
theorem Dv.yes{w w':World}{e:Ending}{o:Option Fd}{f:Fd}(ho:o=some f)(he:e=.returned (.tuple #[ifV f,.bool true]))(hb:Below w w w'):Dv o w e w':=by
 rw[ho];exact⟨he,hb⟩
def J5(x:Vl × Value):List Value:=[.int .u8 (x.1.what.toNat:Int),x.1.text,(x.1.tag:Int),x.2]
def D9(v:Vl)(sl:Value):Value:=.agg #[.int .u8 (v.what.toNat:Int),v.text,(v.tag:Int),sl]
theorem Qdb(x:Vl × Value):(J5 x).length=4:=rfl
def A0(xs:List (Vl × Value)):List Vl:=xs.map (·.1)
inductive Dx(P:Nat->Prop)(w:World):Value->List Vl->Prop
 |mk {v:Value} {ks:List Vl} (A:Option Addr) (c:Nat) (xs:List (Vl × Value)) (hv:v=.slice A xs.length c) (hk:ks=A0 xs) (hl:xs.length<=1000) (hr:B9 w A (xs.length*4) (xs.flatMap J5))
   (hP:∀g o,0<xs.length->A=some ⟨g,o,none⟩->P g) (h:∀x∈xs,Dx P w x.2 x.1.kids):Dx P w v ks
theorem Dx.kept{P Q:Nat->Prop}{w w':World}{v:Value}{ks:List Vl}(h:Dx P w v ks)(hc:∀b o u,P b->b<w.heap.size->w.cell? ⟨b,o,none⟩=some u->w'.cell? ⟨b,o,none⟩=some u)
  (hz:w.heap.size<=w'.heap.size) (hQ:∀b,P b->b<w.heap.size->Q b):Dx Q w' v ks:=by
 induction h with
 |mk A c xs hv hk hl hr hP h ih=>
  refine .mk A c xs hv hk hl ⟨hr.1,hr.2.1,fun hn=>?_⟩ (fun g o hn e=>?_) ih
  ·obtain⟨b,off,e,hlt,hcs⟩:=hr.2.2 hn;exact⟨b,off,e,by omega,fun j u hu=>hc b _ u (hP b off aH e) hlt (hcs j u hu)⟩
  obtain⟨b,off,e2,hlt,_⟩:=hr.2.2 aH;rw[e]at e2;injection e2 with e2;injection e2 with e2 _ _;subst e2;exact hQ g (hP g o hn e) hlt
theorem Dx.after{P:Nat->Prop}{w w':World}{v:Value}{ks:List Vl}(h:Dx P w v ks)(hb:Below w w w'):Dx P w' v ks:=
 h.kept (fun b o u _ hl hu=>(hb.cell (p:=⟨b,o,none⟩) hl).trans hu) hb.size fun _ h _=>h
theorem Dx.mono{P Q:Nat->Prop}{w:World}{v:Value}{ks:List Vl}(h:Dx P w v ks)(hQ:∀b,P b->b<w.heap.size->Q b):Dx Q w v ks:=h.kept (fun _ _ _ _ _ hu=>hu) (Ap _) hQ
theorem Dx.grown{P:Nat->Prop}{w w':World}{v:Value}{ks:List Vl}{row:Option Nat}(h:Dx P w v ks)(hg:w.grownBy w' row)(hne:∀b,P b->some b≠row):Dx P w' v ks:=
 h.kept (fun b o u hp _ hu=>hg.cell hu (hne b hp)) hg.size fun _ h _=>h
theorem Dx.nil(P:Nat->Prop)(w:World):Dx P w (.slice none 0 0) []:=.mk none 0 [] rfl rfl aL ⟨rfl,ag _,fun h=>absurd h aL⟩ (fun _ _ h=>absurd h aL) aL
theorem Dx.form{P:Nat->Prop}{w:World}{v:Value}{ks:List Vl}(h:Dx P w v ks):∃A c,v=.slice A ks.length c:=by
 obtain⟨A,c,xs,rfl,rfl,_,_,_,_⟩:=h;exact⟨A,c,by simp[A0]⟩
theorem Dx.at_{w:World}{A:Option Addr}{xs:List (Vl × Value)}(hr:B9 w A (xs.length*4) (xs.flatMap J5)){i:Nat}(hi:i<xs.length):
  ∃b off,A=some ⟨b,off,none⟩/\b<w.heap.size/\w.cell? ⟨b,off+i*4,none⟩=some (.int .u8 (xs[i].1.what.toNat:Int))/\w.cell? ⟨b,off+i*4+1,none⟩=some (.string ⟨xs[i].1.text.toArray⟩) /\
   w.cell? ⟨b,off+i*4+2,none⟩=some (.int .i64 (xs[i].1.tag:Int))/\w.cell? ⟨b,off+i*4+3,none⟩=some xs[i].2:=by
 obtain⟨b,off,e,hlt,hc⟩:=hr.elem Qdb aK hi;refine⟨b,off,e,hlt,?_,?_,?_,?_⟩
 ·exact jN
 ·exact jr
 ·exact jE
 have:=hc 3 _ rfl;simpa [Nat.add_assoc]using this
section
attribute [local go_sem] Qiz Qii Qib Qgw ByteArray.mk_append_mk
def Gb(w:World)(b:Nat)(p:Value)(t:List UInt8)(bad:Bool):Prop:=b<w.heap.size/\Pf w b/\w.cell? (b,0)=some p/\w.cell? (b,1)=t/\w.cell? (b,2)=some (.bool bad)
theorem Pf.live{w:World}{b:Nat}(h:Pf w b)(o:Nat):w.frozen? ⟨b,o,none⟩=false:=by
 obtain⟨cs,t,h⟩:=h;simp[World.frozen?,h]
theorem Gb.far{w w':World}{b:Nat}{p:Value}{t:List UInt8}{bad:Bool}(h:Gb w b p t bad){B:Nat}(hb:Below B w w')(hB:b<B):Gb w' b p t bad:=by
 obtain⟨h0,h1,h2,h3,h4⟩:=h;exact⟨ac h0 hb.size,h1.belowAt hB hb,(hb.cell (p:=⟨b,0,none⟩) hB).trans h2,(hb.cell (p:=⟨b,1,none⟩) hB).trans h3,(hb.cell (p:=⟨b,2,none⟩) hB).trans h4⟩
theorem Gb.drew{w:World}{b:Nat}{p:Value}{t:List UInt8}{bad:Bool}(h:Gb w b p t bad)(k:Nat):Gb (w.drewN k) b p t bad:=h.far (below_drewN (Aq w.heap.size w) k) h.1
theorem Gb.setBad{w:World}{b:Nat}{p:Value}{t:List UInt8}{bad:Bool}(h:Gb w b p t bad)(x:Bool):Gb (w.setCell ⟨b,2,none⟩ (.bool x)) b p t x:=by
 obtain⟨h0,h1,h2,h3,h4⟩:=h;have hf:=h1.live 2;exact⟨by simpa using h0,h1.set _,by simp[go_sem,h2],by simp[go_sem,h3],by simp[go_sem,h4,hf]⟩
theorem Gb.setText{w:World}{b:Nat}{p:Value}{t:List UInt8}{bad:Bool}(h:Gb w b p t bad)(x:List UInt8):Gb (w.setCell ⟨b,1,none⟩ x) b p x bad:=by
 obtain⟨h0,h1,h2,h3,h4⟩:=h;have hf:=h1.live 1;exact⟨by simpa using h0,h1.set _,by simp[go_sem,h2],by simp[go_sem,h3,hf],by simp[go_sem,h4]⟩
theorem Qb8(w:World)(a:Addr)(v:Value):w.grownBy (w.setCell a v) (some a.block):=
 ⟨rfl,rfl,rfl,by simp,fun k _ hk=>Go.heap_setCell_other _ _ _ _ (fun e=>hk (by rw[e]))⟩
theorem At(w:World)(b o:Nat)(v:Value):w.grownBy (w.setCell ⟨b,o,none⟩ v) (some b):=Qb8 w ⟨b,o,none⟩ v
theorem Bk(b:Nat):∀(vs:List Value) (o:Nat) (w:World),w.grownBy (w.setCells b o vs) (some b)
 |[],_,w=>World.grownBy.refl _ _
 |v::r,o,w=>(At w b o v).trans (Bk b r (o+1) _)
theorem B0{w w':World}(h:Below w w w')(row:Option Nat):w.grownBy w' row:=⟨h.os,h.tape,h.output,h.size,fun k hk _=>h.block k hk⟩
theorem Zp(p s:List UInt8):Fg p s=if p.isPrefixOf s=true then some (s.drop p.length)else none:=by
 by_cases h:p.isPrefixOf s=true
 ·rw[if_pos h];rw[List.isPrefixOf_iff_prefix]at h;obtain⟨t,rfl⟩:=h;rw[Ft];simp
 rw[if_neg h];cases e:Fg p s with
 |none=>rfl
 |some r=>
  rw[Ft]at e;subst e;exact absurd aL h
theorem Qd2(c:UInt8)(s:List UInt8):Fg [c] s=Ar c s:=by
 unfold Fg;cases Ar c s<;>rfl
def cpV(s:List UInt8):Option (List UInt8)->Value
 |some r=>.tuple #[r,.bool true]
 |none=>.tuple #[s,.bool false]
theorem Va(s p:List UInt8)(w:World)(hs:s.length<=4000000):
  Calls prog 122 #[s,p] w fun e w'=>e=.returned (cpV s (Fg p s))/\∃k,w'=w.drewN k:=by
 have HW:=Aa (Zp p s);have Hp:=Aa (fun W=>V6 s p W);by_cases h:p.isPrefixOf s=true
 ·have HW2:=Aa (HW.o.trans (if_pos h));have hl:p.length<=s.length:=by rw[List.isPrefixOf_iff_prefix]at h;exact h.length_le
  have h1:(p.length:Int)<=(s.length:Int):=aH;have h2:(0:Int)<=(p.length:Int):=aH;rw[h]at Hp;clear h HW;go_enter func122,ntmps122;go_wp2_with fail;refine(Hp.o _).mono ?_;rintro e w1 ⟨rfl,rfl⟩;go_wp2_with fail;go_ret2;exact⟨by rw[HW2.o];rfl,0,rfl⟩
 have HW2:=Aa (HW.o.trans (if_neg h));have h':p.isPrefixOf s=false:=Bool.eq_false_iff.2 h;rw[h']at Hp;clear h h' HW;go_enter func122,ntmps122;go_wp2_with fail;refine(Hp.o _).mono ?_;rintro e w1 ⟨rfl,rfl⟩;go_wp2_with fail;go_ret2;exact⟨by rw[HW2.o];rfl,0,rfl⟩
theorem Xd(s p:List UInt8)(w:World)(hs:s.length<=4000000):
  Calls prog 104 #[s,p] w fun e w'=>e=.returned (cpV s (Fg p s))/\∃k,w'=w.drewN k:=by
 have Hp:=Aa (fun W=>Va s p W hs);cases hw:Fg p s with
 |none=>
  rw[hw]at Hp;clear hw;go_enter func104,ntmps104;go_wp2_with fail;refine(Hp.o _).mono ?_;rintro e w1 ⟨rfl,k,rfl⟩;unfold cpV;go_wp2_with fail;go_ret2;exact⟨rfl,k,rfl⟩
 |some r=>
  rw[hw]at Hp;clear hw;go_enter func104,ntmps104;go_wp2_with fail;refine(Hp.o _).mono ?_;rintro e w1 ⟨rfl,k,rfl⟩;unfold cpV;go_wp2_with fail;go_ret2;exact⟨rfl,k,rfl⟩
def Df(w:World)(b:Nat)(p:Value)(t:List UInt8)(bad:Bool)(w':World):Prop:=Gb w' b p t bad/\w.grownBy w' (some b)
def Ba(lead t:List UInt8)(bad:Bool):Option (List UInt8):=if bad then none else Fg lead t
theorem Jb(b:Nat)(p:Value)(t lead:List UInt8)(bad:Bool)(w:World)(h:Gb w b p t bad)(hl:t.length<=4000000):
  Calls prog 78 #[b,lead] w fun e w'=>
   e=.returned (.bool (Ba lead t bad).isSome)/\Df w b p ((Ba lead t bad).getD t) bad w':=by
 have Hp:=Aa (fun W=>Xd t lead W hl);have HT:=@Aa (Ba lead t bad=if bad then none else Fg lead t) rfl;have HS:=Aa h;obtain⟨h0,h1,h2,h3,h4⟩:=h;have hfz:=h1.live 1;clear h1;cases hw:Fg lead t with
 |none=>
  have HT2:=Aa (show Ba lead t bad=none by rw[HT.o,hw];cases bad<;>rfl);rw[hw]at Hp;clear hw HT;go_enter func78,ntmps78;go_wp2_with fail;refine(Hp.o _).mono ?_;rintro e w1 ⟨rfl,k,rfl⟩;unfold cpV;go_wp2_with fail;go_ret;exact⟨by rw[HT2.o];rfl,by rw[HT2.o];exact⟨HS.o.drew k,B0 (below_drewN (Aq _ _) k) _⟩⟩
 |some r=>
  rw[hw]at Hp;cases bad with
  |true=>
   have HT2:=@Aa (Ba lead t true=none) rfl;clear hw HT;go_enter func78,ntmps78;go_wp2_with fail;refine(Hp.o _).mono ?_;rintro e w1 ⟨rfl,k,rfl⟩;unfold cpV;go_wp2_with fail;go_ret;exact⟨by rw[HT2.o];rfl,by rw[HT2.o];exact⟨HS.o.drew k,B0 (below_drewN (Aq _ _) k) _⟩⟩
  |false=>
   have HT2:=@Aa (Ba lead t false=some r) (HT.o.trans hw);clear hw HT;go_enter func78,ntmps78;go_wp2_with fail;refine(Hp.o _).mono ?_;rintro e w1 ⟨rfl,k,rfl⟩;unfold cpV;go_wp2_with fail;go_ret;exact⟨by rw[HT2.o];rfl,by rw[HT2.o];exact⟨(HS.o.drew k).setText r,(B0 (below_drewN (Aq _ _) k) _).trans (At _ _ _ _)⟩⟩
theorem Db(b:Nat)(p:Value)(t lead:List UInt8)(bad:Bool)(w:World)(h:Gb w b p t bad)(hl:t.length<=4000000):
  Calls prog 79 #[b,lead] w fun e w'=>
   e=.returned (.tuple #[])/\Df w b p ((Ba lead t bad).getD t) (Ba lead t bad).isNone w':=by
 have Hp:=Aa (Jb b p t lead bad w h hl);have HB:=Aa (show ∀r,Ba lead t bad=some r->bad=false by intro r h;cases bad;rfl;cases h);generalize Ba lead t bad=o at Hp HB ⊢;cases o with
 |some r=>
  obtain rfl:=HB.o r rfl;go_enter func79,ntmps79;go_wp2_with fail;refine Hp.o.mono ?_;rintro e w1 ⟨rfl,hs⟩;have HS:=Aa hs;clear hs;go_wp2_with fail;go_end0
  exact⟨rfl,HS.o⟩
 |none=>
  go_enter func79,ntmps79;go_wp2_with fail;refine Hp.o.mono ?_;rintro e w1 ⟨rfl,hs⟩;have HS:=Aa hs;obtain⟨⟨h0,h1,_,_,h4⟩,_⟩:=hs;have hfz:=h1.live 2;clear h1;go_wp2_with fail;go_end0
  exact⟨rfl,HS.o.1.setBad true,HS.o.2.trans (At _ _ _ _)⟩
def Qgi:List UInt8:=[48,49,50,51,52,53,54,55,56,57]
theorem Qgo(c:UInt8):Qgi.contains c=Bh c:=by
 have:=Pn (p:=fun c=>Qgi.contains c == Bh c) fG c;simpa using this
theorem Qfd(s:List UInt8):s.dropWhile (Qgi.contains ·)=s.dropWhile Bh:=by congr 1;funext c;exact Qgo c
theorem Qe8(s:List UInt8):s.dropWhile (Qcm.contains ·)=s.dropWhile Ce:=by congr 1;funext c;exact Qaa c
theorem Q6(p:UInt8->Bool)(s:List UInt8):s.take (s.length - (s.dropWhile p).length)=s.takeWhile p/\(s.dropWhile p).length<=s.length:=by
 have e:s.takeWhile p++s.dropWhile p=s:=List.takeWhile_append_dropWhile;have hl:(s.takeWhile p).length+(s.dropWhile p).length=s.length:=by rw[<-ah,e]
 refine⟨?_,by omega⟩;conv=>lhs;arg 2;rw[<-e]
 rw[show s.length - (s.dropWhile p).length=(s.takeWhile p).length by omega,List.take_left]
def G0(t:List UInt8):Nat:=(Cn (t.takeWhile Bh)).getD 0
def Gg(m:Nat)(t:List UInt8):Bool:=match Cn (t.takeWhile Bh)with|some n=>decide (n<=m)|none=>false
theorem Qhc(m:Nat)(t:List UInt8):pnV (t.takeWhile Bh) m=.tuple #[.int .i64 (G0 t:Int),.bool (Gg m t)]:=by
 unfold pnV G0 Gg;cases Cn (t.takeWhile Bh)<;>rfl
theorem Gb.grow{w w':World}{b:Nat}{p:Value}{t:List UInt8}{bad:Bool}(h:Gb w b p t bad)(hb:Below w w w'):Gb w' b p t bad:=h.far hb h.1
theorem Ph(b m:Nat)(p:Value)(t:List UInt8)(bad:Bool)(w:World)(h:Gb w b p t bad)(hl:t.length<=4000000)(hm:m<=999999):
  Calls prog 80 #[b,.int .i64 m] w fun e w'=>
   e=.returned (.int .i64 (G0 t:Int))/\Df w b p (t.dropWhile Bh) (bad || !Gg m t) w':=by
 have Htl:=Aa (fun W=>Nj t Qgi W aK aK);simp only[Qfd]at Htl;have Hpn:=Aa (fun W=>Gk (t.takeWhile Bh) m W (by have:=(Q6 Bh t).1;have h2:=List.length_take_le (t.length - (t.dropWhile Bh).length) t;rw[this]at h2;omega) hm);rw[Qhc]at Hpn;obtain⟨htk,hdl⟩:=Q6 Bh t;have Htk:=Aa htk;unfold Qgi at Htl;have HS:=Aa h;have kw:IntKind.i64.wrap ((t.length:Int) - ((t.dropWhile Bh).length:Int))=(t.length:Int) - ((t.dropWhile Bh).length:Int):=IntWalk.i64_in _ aH;have k1:(0:Int)<=(t.length:Int) - ((t.dropWhile Bh).length:Int):=aH;have k2:(t.length:Int) - ((t.dropWhile Bh).length:Int)<=(t.length:Int):=aH;have k3:((t.length:Int) - ((t.dropWhile Bh).length:Int)).toNat=t.length - (t.dropWhile Bh).length:=aH;generalize G0 t=n at *;generalize Gg m t=ok at *;generalize t.takeWhile Bh=a at *;generalize t.dropWhile Bh=r at *;obtain⟨h0,h1,h2,h3,h4⟩:=h;clear htk h1;go_enter func80,ntmps80;go_wp2_with fail;refine(Htl.o _).mono ?_;rintro e w1 ⟨rfl,hb1⟩;have HS1:=Aa (HS.o.grow hb1);have Hb1:=Aa hb1;have C1:=Aa ((hb1.cell (p:=⟨b,1,none⟩) h0).trans h3);have hz1:b<w1.heap.size:=by have:=hb1.size;omega
 clear hb1 HS h2 h3 h4;go_wp2_with fail;refine Ge [14,15,16,17,18,19,20,21,22,23,24,25,26,27,28,13,29,30,6,7]
  (fun ix v W=>match ix with|0=>v=b|1=>v=b|2=>v=(b,1)|3=>v=t|4=>v=b|5=>v=b|6=>v=(b,1)|7=>v=t|8=>v=(t.length:Int)|9=>v=r|10=>v=(r.length:Int)|11=>v=.int .i64 ((t.length:Int) - (r.length:Int))|12=>v=a|13=>v=(m:Int)|14=>v=.tuple #[(n:Int),.bool ok]|15=>v=.tuple #[(n:Int),.bool ok]|16=>v=(n:Int)|17=>v=.bool ok|18=>v=(n:Int)|19=>v=.bool ok|_=>True)
  (fun L U W=>∃k,W=w1.drewN k) (⟨1,rfl⟩) ?_ ?_
 ·repeat (first|exact Ah.nil|(refine Ah.cons ?_ ?_;rotate_left))
  all_goals
   rintro L U W hL hpre HR Hdep K hK;obtain⟨k,hk⟩:=HR.o;have c1:W.cell? (b,1)=t:=by rw[hk];exact C1.o
   clear hk;first|(simp[Region.binds]at hpre;done)|simp[Region.binds]at hpre|clear hpre
  iterate 11
   ·exact hG
  ·exact jv
  ·exact jL
  ·exact hG
  ·go_simp;refine(Hpn.o W).mono ?_;rintro e w' ⟨rfl,rfl⟩;exact kF hK HR.o
  iterate 5
   ·exact hG
 rintro L U W hL hφ hR;have e18:U 18=(n:Int):=hφ 18 aK;have e19:U 19=.bool ok:=hφ 19 aK;simp only[e18,e19];clear hφ;obtain⟨k,rfl⟩:=hR;clear hL;have HS2:=Aa (HS1.o.drew k);have Hb2:=Aa (below_drewN Hb1.o k);obtain⟨q0,q1,_,_,_⟩:=HS2.o;have hf1:=q1.live 1;have hf2:=q1.live 2;clear q1;have j2:=HS2.o.2.2.2.1;have j3:=HS2.o.2.2.2.2;cases ok with
 |true=>
  go_wp2_with fail;go_ret;refine⟨rfl,by simpa using HS2.o.setText r,(B0 Hb2.o _).trans (At _ _ _ _)⟩
 |false=>
  go_wp2_with fail;go_ret;refine⟨rfl,by simpa using(HS2.o.setBad true).setText r,((B0 Hb2.o _).trans (At _ _ _ _)).trans (At _ _ _ _)⟩
def Qh4(t:List UInt8)(bad:Bool)(b:Nat)(p:Value)(w:World)(e:Ending)(w':World):Prop:=
 ∃(x t':List UInt8) (bad':Bool),e=.returned x/\Df w b p t' bad' w'/\(if bad then none else Mo t)=(if bad' then none else some (x,t'))/\x.length+t'.length<=t.length
theorem Pq{c:UInt8}{t:List UInt8}:((Ar c t).getD t).length<=t.length:=by
 cases h:Ar c t with
 |none=>exact Ap _
 |some r=>rw[Ck]at h;subst h;simp
theorem Ci(c:UInt8)(t:List UInt8)(bad:Bool):Ba [c] t bad=if bad then none else Ar c t:=by unfold Ba;rw[Qd2]
theorem Qaf(t t1 t3:List UInt8)(bad b1 b2 b3:Bool)(h1:t1=(Ba [39] t bad).getD t)(hb1:b1=(Ba [39] t bad).isNone)(h3:t3=(Ba [39] (t1.dropWhile Ce) b1).getD (t1.dropWhile Ce))(hb2:b2=(Ba [39] (t1.dropWhile Ce) b1).isNone)
  (hb3:b3=(b2 || decide (12<(t1.takeWhile Ce).length))):
  (if bad then none else Mo t)=(if b3 then none else some (t1.takeWhile Ce,t3))/\(t1.takeWhile Ce).length+t3.length<=t.length:=by
 have e:(t1.takeWhile Ce).length+(t1.dropWhile Ce).length=t1.length:=by rw[<-ah,List.takeWhile_append_dropWhile]
 rw[Ci]at h1 hb1 h3 hb2;subst h1 hb1 h3 hb2 hb3;constructor
 ·cases bad with
  |true=>simp
  |false=>
   unfold Mo;simp only[ao,if_false];cases Ar 39 t with
   |none=>simp
   |some r=>
    simp only[Option.getD_some,Option.isNone_some,ao,if_false];cases Ar 39 (r.dropWhile Ce)with
    |none=>simp
    |some q=>
     simp only[Option.getD_some,Option.isNone_some,Bool.false_or,decide_eq_true_eq];by_cases h:(r.takeWhile Ce).length<=12
     ·rw[if_pos h,if_neg aH]
     rw[if_neg h,if_pos aH]
 have k1:((if bad=true then none else Ar 39 t).getD t).length<=t.length:=by cases bad;exact Pq;exact Ap _
 generalize (if bad=true then none else Ar 39 t)=o at *;have k2:((if o.isNone=true then none else Ar 39 ((o.getD t).dropWhile Ce)).getD ((o.getD t).dropWhile Ce)).length<=((o.getD t).dropWhile Ce).length:=by cases o.isNone;exact Pq;exact Ap _
 omega
theorem Qck(b:Nat)(p:Value)(t:List UInt8)(bad:Bool)(w:World)(h:Gb w b p t bad)(hl:t.length<=4000000):
  Calls prog 81 #[b] w (Qh4 t bad b p w):=by
 have Hq:=Aa (Qaf t);have Hw1:=Aa (fun W (h:Gb W b p t bad)=>Db b p t [39] bad W h hl);have hk1:((Ba [39] t bad).getD t).length<=t.length:=gj;have HS:=Aa h;clear h;obtain⟨t1,ht1⟩:∃t1,t1=(Ba [39] t bad).getD t:=⟨_,rfl⟩
 obtain⟨b1,hb1⟩:∃b1,b1=(Ba [39] t bad).isNone:=⟨_,rfl⟩
 rw[<-ht1]at hk1;have Hq:=Aa (fun t3 b2 b3=>Hq.o t1 t3 bad b1 b2 b3 ht1 hb1);rw[<-ht1,<-hb1]at Hw1;clear ht1 hb1;have Htl:=Aa (fun W=>Nj t1 Qcm W aK aK);simp only[Qe8]at Htl;unfold Qcm at Htl;obtain⟨htk,hdl⟩:=Q6 Ce t1;have Htk:=Aa htk;have Hw2:=Aa (fun W (h:Gb W b p (t1.dropWhile Ce) b1)=>Db b p (t1.dropWhile Ce) [39] b1 W h aH);clear htk;go_enter func81,ntmps81;go_wp2_with fail;refine(Hw1.o _ HS.o).mono ?_;rintro e w1 ⟨rfl,hs1,hg1⟩;have HS1:=Aa hs1;have Hg1:=Aa hg1;obtain⟨z1,_,_,c1,_⟩:=hs1;clear hg1;go_wp2_with fail;refine(Htl.o _).mono ?_;rintro e w2 ⟨rfl,hb2⟩;have HS2:=Aa (HS1.o.grow hb2);have Hg2:=Aa (Hg1.o.trans (B0 hb2 _));have C2:=Aa HS2.o.2.2.2.1;have hz2:b<w2.heap.size:=HS2.o.1;clear hb2 c1 z1;have kw:IntKind.i64.wrap ((t1.length:Int) - ((t1.dropWhile Ce).length:Int))=(t1.length:Int) - ((t1.dropWhile Ce).length:Int):=IntWalk.i64_in _ aH;have k1:(0:Int)<=(t1.length:Int) - ((t1.dropWhile Ce).length:Int):=aH;have k2:(t1.length:Int) - ((t1.dropWhile Ce).length:Int)<=(t1.length:Int):=aH;have k3:((t1.length:Int) - ((t1.dropWhile Ce).length:Int)).toNat=t1.length - (t1.dropWhile Ce).length:=aH;obtain⟨a,ha⟩:∃a,a=t1.takeWhile Ce:=⟨_,rfl⟩
 obtain⟨r,hr⟩:∃r,r=t1.dropWhile Ce:=⟨_,rfl⟩
 rw[<-ha]at Htk;rw[<-hr]at Htk Hw2 hdl kw k1 k2 k3;simp only[<-hr];have Hq:=Aa (fun t3 b2 b3=>Hq.o t3 b2 b3);simp only[<-hr,<-ha]at Hq;clear ha hr;go_wp2_with fail;refine Ge [12,13,14,15,16,17,18,19,20,21,22,23,24,4]
  (fun ix v W=>match ix with|0=>v=b|1=>v=b|2=>v=(b,1)|3=>v=.string ⟨t1.toArray⟩|4=>v=b|5=>v=b|6=>v=(b,1)|7=>v=.string ⟨t1.toArray⟩|8=>v=(t1.length:Int)|9=>v=.string ⟨r.toArray⟩|10=>v=(r.length:Int)|11=>v=.int .i64 ((t1.length:Int) - (r.length:Int))|12=>v=.string ⟨a.toArray⟩|13=>v=.string ⟨a.toArray⟩|_=>True)
  (fun L U W=>∃k,W=w2.drewN k) (⟨1,rfl⟩) ?_ ?_
 ·repeat (first|exact Ah.nil|(refine Ah.cons ?_ ?_;rotate_left))
  all_goals
   rintro L U W hL hpre HR Hdep K hK;obtain⟨k,hk⟩:=HR.o;have c1:W.cell? (b,1)=some (.string ⟨t1.toArray⟩):=by rw[hk];exact C2.o
   clear hk;first|(simp[Region.binds]at hpre;done)|simp[Region.binds]at hpre|clear hpre
  iterate 11
   ·exact hG
  ·exact jv
  ·exact jL
  ·exact hG
 rintro L U W hL hφ hR;have e13:U 13=.string ⟨a.toArray⟩:=hφ 13 aK;simp only[e13];clear hφ;obtain⟨k,rfl⟩:=hR;clear hL;have HS3:=Aa (HS2.o.drew k);have Hg3:=Aa (Hg2.o.trans (B0 (below_drewN (Aq _ _) k) _));have hf1:=HS3.o.2.1.live 1;have q0:=HS3.o.1;have j2:=HS3.o.2.2.2.1;have j3:=HS3.o.2.2.2.2;go_wp2_with fail;refine(Hw2.o _ (HS3.o.setText r)).mono ?_;rintro e w4 ⟨rfl,hs4,hg4⟩;have HS4:=Aa hs4;have Hg4:=Aa ((Hg3.o.trans (At _ _ _ _)).trans hg4);clear hg4 hs4 j2 j3 hf1 q0;have Hq4:=Aa (fun b3=>Hq.o _ _ b3 rfl rfl);generalize (Ba [39] r b1).getD r=t3 at *;generalize (Ba [39] r b1).isNone=b2 at *;have hf2:=HS4.o.2.1.live 2;have q0:=HS4.o.1;have k3:=HS4.o.2.2.2.2;by_cases hlen:a.length<=12
 ·have t1:decide ((12:Int)<(a.length:Int))=false:=aM;go_wp2_with fail;go_ret;obtain⟨h1,h2⟩:=Hq4.o b2 aM;exact⟨a,t3,b2,rfl,⟨HS4.o,Hg4.o⟩,h1,h2⟩
 have t1:decide ((12:Int)<(a.length:Int))=true:=aM;go_wp2_with fail;go_ret;obtain⟨h1,h2⟩:=Hq4.o true aM;exact⟨a,t3,true,rfl,⟨HS4.o.setBad true,Hg4.o.trans (At _ _ _ _)⟩,h1,h2⟩
end
theorem Tryz.xtraJ:Builder.Extra prog Tryz.lays156_ren where
 sizeBuilder:=aO
 liesBuilder:=aO
 t5:=underlying5
 a5:=isAgg5
 z5:=sizeOf5
 v5:=zeroValue5
 infoByte:=aO
 cellsByte:=aO
 sizeByte:=aO
 neB5:=aK
theorem Vy:∀ps:List (List UInt8),Lib.join ps [44]=Av 44 ps
 |[]=>rfl
 |[p]=>by rw[Lib.join_one];rfl
 |p::q::r=>by
  have ih:=Vy (q::r);rw[Qdt 44 p aL,<-ih,Lib.join_cons p,Lib.join_cons q];simp[Lib.joinTail]
theorem Qda(ps:List (List UInt8)):ps.length<=Dc ps:=by
 induction ps with
 |nil=>exact Ap _
 |cons p ps ih=>rw[D7,List.length_cons];omega
theorem Qh2(A:Option Addr)(c:Nat)(ps:List (List UInt8))(w:World)(hr:B9 w A ps.length (Bt ps))(hcp:ps.length<=c)(hl:Dc ps<=2000000):
  Calls prog 32 #[.slice A ps.length c,.string ⟨#[44]⟩] w fun e w'=>e=.returned (.string ⟨(Av 44 ps).toArray⟩)/\Below w w w':=by
 by_cases h0:ps.length=0
 ·have e0:ps=[]:=List.length_eq_zero_iff.1 h0;subst e0;exact(Any.strings_Join_none Tryz.lays156 Tryz.xtraJ A c ⟨#[44]⟩ w).mono fun e w' ⟨he,hw⟩=>⟨he,hw ▸ Aq _ _⟩
 have hl':(Av 44 ps).length<=2000000:=by rw[Bu];omega
 have hpl:=Qda ps;obtain⟨hlc,_,hrow⟩:=hr;obtain⟨b,off,rfl,hb,hcl⟩:=hrow aH;have e1:(ps.map fun p=>(⟨p.toArray⟩:ByteArray)).map (·.data.toList)=ps:=by rw[List.map_map];exact List.map_id ps
 have h:=Any.strings_Join Tryz.lays156 Tryz.xtraJ b off c (ps.map fun p=>(⟨p.toArray⟩:ByteArray)) ⟨#[44]⟩ w (fun j x hx=>by
  rw[List.getElem?_map]at hx;obtain⟨p,hp,rfl⟩:=Option.map_eq_some_iff.1 hx;exact hcl j _ (by rw[Bt,List.getElem?_map,hp];rfl)) hb (by rw[List.length_map];omega) (by rw[List.length_map];exact hcp) (by rw[e1];show (Lib.join ps [44]).length<=_;rw[Vy];omega)
 rw[e1,List.length_map]at h;refine h.mono ?_;rintro e w' ⟨he,hw⟩;exact⟨by rw[he];show Ending.returned (.string ⟨(Lib.join ps [44]).toArray⟩)=_;rw[Vy],hw⟩
section
attribute [local go_sem] Qiz Qii Qib Qgw ByteArray.mk_append_mk
inductive Bd:Vl->Prop
 |mk {w:UInt8} {tx:List UInt8} {tg:Nat} {ks:List Vl} (h1:tg<=1000000000) (h2:Dc (ks.map Bc)<=1000000) (h3:tx.length<=1000000) (h:∀x∈ks,Bd x):Bd (.mk w tx tg ks)
theorem Qh{w:World}{base k n:Nat}{e:TypeId}{v:Value}{xs:List Value}(h:w.ownsRow base e k v n xs):∃A m c,v=.slice A m c:=by
 rcases h.2 with⟨rfl,_⟩|⟨g,cap,cur,rfl,_⟩
 ·exact⟨_,_,_,rfl⟩
 exact⟨_,_,_,rfl⟩
theorem Qg6{w:World}{base n m c:Nat}{e:TypeId}{A:Option Addr}{xs:List Value}(h:w.ownsRow base e 1 (.slice A m c) n xs):m=n/\n<=c\/n=0/\m=0:=by
 rcases h.2 with⟨e,h0⟩|⟨g,cap,cur,e,_,_,hnc,_⟩
 ·injection e with _ e1 e2;exact .inr ⟨h0,e1⟩
 injection e with _ e1 e2;subst e1 e2;exact .inl ⟨rfl,hnc⟩
theorem Qid(w:UInt8)(tx:List UInt8)(tg:Nat)(ps:List (List UInt8)):Gs w tx tg ps=if w=116 then 39::(tx++[39])
  else if w=91 then 91::(Av 44 ps++[93])else if w=63 then(if ps.length=0 then[45]else 43::Av 44 ps)else if w=61 then Bb tg++61::Av 44 ps else if w=82 then 123::(Av 44 ps++[125])
  else if w=85 then 60::(Bb tg++61::(Av 44 ps++[62]))else if w=69 then 35::Bb tg else tx:=by
 unfold Gs;cases ps<;>rfl
theorem Qal(P:Nat->Prop)(v:Vl)(sl:Value)(w:World)(h:Dx P w sl v.kids)(hb:Bd v)
  (ih:∀x∈v.kids,∀s W,Dx P W s x.kids->Calls prog 17 #[D9 x s] W fun e w'=>e=.returned (.string ⟨(Bc x).toArray⟩)/\Below W W w'):
  Calls prog 17 #[D9 v sl] w fun e w'=>e=.returned (.string ⟨(Bc v).toArray⟩)/\Below w w w':=by
 have Ih:=Aa ih;obtain⟨wh,tx,tg,ks⟩:=v;obtain⟨h1,h2,h3,_⟩:=hb;have HF:=Aa (Ki wh tx tg ks);simp only[Vl.kids]at h;have Ih:=@Aa (∀x∈ks,∀s W,Dx P W s x.kids->_) ih;obtain⟨A,c,xs,rfl,rfl,hl,hr,hP,hk⟩:=h;have Hr:=Aa hr;have Hk:=Aa hk;have hxl:(A0 xs).length=xs.length:=by simp[A0]
 have Hd:=Aa (fun W=>N9 tg tg W (Ap _) h1);clear hr hk ih hP;unfold D9;simp only[Vl.what,Vl.text,Vl.tag];go_enter func17,ntmps17;go_wp2_with fail;obtain⟨w1,hw1⟩:∃w1,w1=w.alloc (.cells #[.int .u8 (wh.toNat:Int),tx,(tg:Int),.slice A xs.length c] 40):=⟨_,rfl⟩
 rw[<-hw1];have c0:w1.cell? (w,0)=some (.int .u8 (wh.toNat:Int)):=eJ;have c1:w1.cell? (w,1)=tx:=eJ;have c2:w1.cell? (w,2)=(tg:Int):=eJ;have c3:w1.cell? (w,3)=some (.slice A xs.length c):=eJ;have hz1:w1.heap.size=w.heap.size+1:=eJ;have Hb1:=Aa (show Below w w w1 by rw[hw1];exact(Aq _ _).alloc (Ap _) _);have Hr1:=Aa (Hr.o.below Hb1.o);have Hk1:=Aa (fun x hx=>(Hk.o x hx).after Hb1.o);have hB:w.heap.size<w1.heap.size:=aH;generalize hB0:w.heap.size=B at *;have HB0:=Aa hB0;clear hB0;clear hw1 Hr Hk;go_loopw [10,3] (fun i u wr=>∃(m:Nat) (A3:Option Addr) (n3 q3:Nat),i=.int .i64 m/\u=.slice A3 n3 q3/\m<=xs.length/\Hid (wr.ownsRow w1 9 1 (.slice A3 n3 q3) m (Bt ((xs.take m).map fun x=>Bc x.1)))/\Hid (Below w1 w1 wr)) (fun i _ _=>xs.length - (intOf i).toNat)
 case atStart=>exact⟨0,none,0,0,rfl,rfl,ag _,World.ownsRow_nil _ _ _ _,Aq _ _⟩
 case round=>
  obtain⟨m,A3,n3,q3,rfl,rfl,hm,Hown,Hbr⟩:=hrel;have m1:(0:Int)<=(m:Int):=aH;by_cases hlt:m<xs.length
  ·have m2:(m:Int)<(xs.length:Int):=aH;obtain⟨b,off,rfl,hb,d0,d1,d2,d3⟩:=Dx.at_ (Hr1.o.below Hbr.o) hlt;have hkx:=(Hk1.o _ (ae hlt)).after Hbr.o;have Hkx:=Aa hkx;have Hmx:=@Aa (xs[m].1∈A0 xs) (ap (ae hlt));have Hts:=Aa (Ch xs m hlt);have hsz:w1.heap.size<=wr.heap.size:=Hbr.o.size;have hbn:¬(b=wr.heap.size):=aH;clear hkx;generalize xs[m]=x at *;obtain⟨y,ys⟩:=x;obtain⟨A7,c7,e7⟩:=Hkx.o.form;simp only at e7 d0 d1 d2 d3 Hkx Hmx;subst e7;have Hx:=Aa (fun W=>Ih.o y Hmx.o (.slice A7 y.kids.length c7) W);unfold D9 at Hx;go_wp2_with fail;refine(Hx.o _ (Hkx.o.after ((Aq _ _).alloc (Ap _) _))).mono ?_;rintro e w3 ⟨rfl,hb3⟩;have Hb3:=Aa (((Aq _ _).alloc (Ap _) _).trans (hb3.mono aL));have Ho3:=Aa (Cm Hown.o Hb3.o);have hs3:w1.heap.size<=w3.heap.size:=ad hsz Hb3.o.size;clear hb3;go_wp2_with (at_builtin;refine Pi _ rfl _ _ 72 rfl w1 9 a8 16 underlying72 Ta rfl w3 (.string ⟨(Bc y).toArray⟩) rfl rfl (.slice A3 n3 q3) m (Bt ((xs.take m).map fun x=>Bc x.1)) rfl rfl Ho3.o aZ aH hs3 ?_;intro v' w5 hown5 hb5;obtain⟨A5,n5,c5,rfl⟩:=Qh hown5;have Ho:=Aa hown5;have Hb5:=Aa hb5;clear hown5 hb5)
   go_roundw
   case rel=>exact⟨m+1,A5,n5,c5,by go_num,rfl,by omega,(by rw[Hts.o,az,Xc];exact Ho.o),(Hbr.o.trans (Hb3.o.mono hsz)).trans Hb5.o⟩
   case measure=>simp[intOf];omega
  ·obtain rfl:m=xs.length:=aH;have hown6:=Hown.o;rw[List.take_length]at hown6;have hrow:=B9.own hown6;obtain⟨A6,c6,e6,hr6⟩:=hrow;have hcap:=Qg6 hown6;injection e6 with e7 e8 e9;subst e7 e8 e9;have Hps:=Aa (show (xs.map fun x=>Bc x.1)=(A0 xs).map Bc by simp[A0]);have hpl:(xs.map fun x=>Bc x.1).length=xs.length:=aL
   have Hj:=Aa (fun W (hW:B9 W A3 xs.length (Bt (xs.map fun x=>Bc x.1)))=>(by
    have:=Qh2 A3 q3 (xs.map fun x=>Bc x.1) W (by rw[hpl];exact hW) (by rw[hpl];omega) (by rw[Hps.o];omega);rw[hpl]at this;exact this:Calls prog 32 #[.slice A3 xs.length q3,.string ⟨#[44]⟩] W fun e w'=>e=.returned (.string ⟨(Av 44 (xs.map fun x=>Bc x.1)).toArray⟩)/\Below W W w'))
   have HF:=Aa (show Bc (.mk wh tx tg (A0 xs))=_ by rw[HF.o,<-Hps.o,Qid,hpl]);have hjl:(Av 44 (xs.map fun x=>Bc x.1)).length<=1000000:=by rw[Bu,Hps.o];omega
   have hdl:(Bb tg).length<=11:=Qe5 10 tg (by have e:10 ^ (10+1)=100000000000:=rfl;omega);generalize (xs.map fun x=>Bc x.1)=ps at *;generalize Av 44 ps=jt at *;have Hr6:=Aa hr6;have Hb6:=Aa (Hb1.o.trans (Hbr.o.mono aH));clear hown6 hr6 hcap Hps hpl Hown Ih Hk1 Hr1;go_wp2_with fail;refine(Hj.o _ Hr6.o).mono ?_;rintro e w4 ⟨rfl,hb4⟩;have Hb4:=Aa (Hb6.o.trans (hb4.mono fH));have hc4:=fun j=>(hb4.cell (p:=⟨B,j,none⟩) (show B<wr.heap.size by have:=Hbr.o.size;omega)).trans (Hbr.o.cell (p:=⟨B,j,none⟩) hB);have g0:=(hc4 0).trans c0;have g1:=(hc4 1).trans c1;have g2:=(hc4 2).trans c2;have g3:=(hc4 3).trans c3;clear hc4 hb4 Hj Hr6 Hb6 Hbr Hb1;by_cases a116:wh=116
   ·have HF:=Aa (HF.o.trans (if_pos a116));have t116:((wh.toNat:Int) == 116)=true:=Be (d:=116) a116;clear a116;go_wp2_with fail;go_ret;exact⟨by rw[HF.o];simp,by rw[HB0.o];exact Hb4.o⟩
   have HF:=Aa (HF.o.trans (if_neg a116));have t116:((wh.toNat:Int) == 116)=false:=Am (d:=116) a116;clear a116;by_cases a91:wh=91
   ·have HF:=Aa (HF.o.trans (if_pos a91));have t91:((wh.toNat:Int) == 91)=true:=Be (d:=91) a91;clear a91;go_wp2_with fail;go_ret;exact⟨by rw[HF.o];simp,by rw[HB0.o];exact Hb4.o⟩
   have HF:=Aa (HF.o.trans (if_neg a91));have t91:((wh.toNat:Int) == 91)=false:=Am (d:=91) a91;clear a91;by_cases a63:wh=63
   ·have HF:=Aa (HF.o.trans (if_pos a63));have t63:((wh.toNat:Int) == 63)=true:=Be (d:=63) a63;clear a63;by_cases h0:xs.length=0
    ·have e0:((xs.length:Int) == 0)=true:=by simp[h0]
     have HF:=Aa (HF.o.trans (if_pos h0));clear h0;go_wp2_with fail;go_ret;exact⟨by rw[HF.o];rfl,by rw[HB0.o];exact Hb4.o⟩
    have e0:((xs.length:Int) == 0)=false:=cb;have HF:=Aa (HF.o.trans (if_neg h0));clear h0;go_wp2_with fail;go_ret;exact⟨by rw[HF.o];rfl,by rw[HB0.o];exact Hb4.o⟩
   have HF:=Aa (HF.o.trans (if_neg a63));have t63:((wh.toNat:Int) == 63)=false:=Am (d:=63) a63;clear a63;by_cases a61:wh=61
   ·have HF:=Aa (HF.o.trans (if_pos a61));have t61:((wh.toNat:Int) == 61)=true:=Be (d:=61) a61;clear a61;go_wp2_with fail;refine(Hd.o _).mono ?_;rintro e w5 ⟨rfl,hb5⟩;have Hb4:=Aa (Hb4.o.trans (hb5.mono eG));clear hb5;go_wp2_with fail;go_ret;exact⟨by rw[HF.o];simp,by rw[HB0.o];exact Hb4.o⟩
   have HF:=Aa (HF.o.trans (if_neg a61));have t61:((wh.toNat:Int) == 61)=false:=Am (d:=61) a61;clear a61;by_cases a82:wh=82
   ·have HF:=Aa (HF.o.trans (if_pos a82));have t82:((wh.toNat:Int) == 82)=true:=Be (d:=82) a82;clear a82;go_wp2_with fail;go_ret;exact⟨by rw[HF.o];simp,by rw[HB0.o];exact Hb4.o⟩
   have HF:=Aa (HF.o.trans (if_neg a82));have t82:((wh.toNat:Int) == 82)=false:=Am (d:=82) a82;clear a82;by_cases a85:wh=85
   ·have HF:=Aa (HF.o.trans (if_pos a85));have t85:((wh.toNat:Int) == 85)=true:=Be (d:=85) a85;clear a85;go_wp2_with fail;refine(Hd.o _).mono ?_;rintro e w5 ⟨rfl,hb5⟩;have Hb4:=Aa (Hb4.o.trans (hb5.mono eG));clear hb5;go_wp2_with fail;go_ret;exact⟨by rw[HF.o];simp,by rw[HB0.o];exact Hb4.o⟩
   have HF:=Aa (HF.o.trans (if_neg a85));have t85:((wh.toNat:Int) == 85)=false:=Am (d:=85) a85;clear a85;by_cases a69:wh=69
   ·have HF:=Aa (HF.o.trans (if_pos a69));have t69:((wh.toNat:Int) == 69)=true:=Be (d:=69) a69;clear a69;go_wp2_with fail;refine(Hd.o _).mono ?_;rintro e w5 ⟨rfl,hb5⟩;have Hb4:=Aa (Hb4.o.trans (hb5.mono eG));clear hb5;go_wp2_with fail;go_ret;exact⟨by rw[HF.o];simp,by rw[HB0.o];exact Hb4.o⟩
   have HF:=Aa (HF.o.trans (if_neg a69));have t69:((wh.toNat:Int) == 69)=false:=Am (d:=69) a69;clear a69;go_wp2_with fail;go_ret;exact⟨by rw[HF.o];rfl,by rw[HB0.o];exact Hb4.o⟩
theorem Qm(P:Nat->Prop){v:Vl}(hb:Bd v):∀(sl:Value) (w:World),Dx P w sl v.kids ->
  Calls prog 17 #[D9 v sl] w fun e w'=>e=.returned (.string ⟨(Bc v).toArray⟩)/\Below w w w':=by
 induction hb with
 |mk h1 h2 h3 h ih=>exact fun sl w hk=>Qal P _ sl w hk (.mk h1 h2 h3 h) fun x hx s W hs=>ih x hx s W hs
section
variable {P:Program}
theorem Az{fn:Func}{p:Tmp}{ty:TypeId}(h:fn.results=#[.cell p ty])(tmps:Array Value)(w:World)(b:Nat)(cs:List Value)(d:TypeDesc)
  (hp:tmps.getD p undef=b) (hc:w.rangeAt b 0 cs) (hu:P.underlying ty=some d) (hd:d.isRow=true) (hi:(P.info? ty).map (·.size)=some cs.length):
  (results fn tmps).run P w=.ok (.agg cs.toArray) w:=by
 have hp':tmps[p]?.getD undef=b:=du;simp[results,h,hp',asAddr,run_loadVar_mid w b 0 ty cs d hc hu hd hi]
end
theorem Yo{w W:World}{row:Option Nat}{B o:Nat}(h:w.grownBy W row)(hB:w.heap.size<=B):∀(cs:List Value) (o:Nat),w.grownBy (W.setCells B o cs) row:=by
 intro cs;induction cs generalizing W with
 |nil=>intro o;exact h
 |cons v cs ih=>
  intro o;refine ih (W:=W.setCell ⟨B,o,none⟩ v) ⟨h.os,h.tape,h.output,by simpa using h.size,fun k hk hne=>?_⟩ (o+1);rw[Go.heap_setCell_other _ _ _ _ (show k≠B by omega)];exact h.block k hk hne
theorem Df.trans{w w1 w2:World}{b:Nat}{p:Value}{t t':List UInt8}{x y:Bool}(h1:Df w b p t x w1)(h2:Df w1 b p t' y w2):Df w b p t' y w2:=⟨h2.1,h1.2.trans h2.2⟩
theorem Df.pre{w w1 w2:World}{b:Nat}{p:Value}{t:List UInt8}{x:Bool}(hb:Below w w w1)(h:Df w1 b p t x w2):Df w b p t x w2:=⟨h.1,(B0 hb _).trans h.2⟩
theorem Df.post{w w1 w2:World}{b:Nat}{p:Value}{t:List UInt8}{x:Bool}(h:Df w b p t x w1)(hb:Below w1 w1 w2):Df w b p t x w2:=⟨h.1.grow hb,h.2.trans (B0 hb _)⟩
theorem Df.set{w W:World}{b B:Nat}{p:Value}{t:List UInt8}{x:Bool}(h:Df w b p t x W)(hB:w.heap.size<=B)(hne:B≠b)(cs:List Value):Df w b p t x (W.setCells B 0 cs):=by
 obtain⟨⟨h0,h1,h2,h3,h4⟩,hg⟩:=h;have hk:(W.setCells B 0 cs).heap[b]?=W.heap[b]?:=(Bk B cs 0 W).block b h0 (by simpa using hne.symm);have hc:∀o,(W.setCells B 0 cs).cell? ⟨b,o,none⟩=W.cell? ⟨b,o,none⟩:=fun o=>World.cell?_of_block (a:=⟨b,o,none⟩) hk;obtain⟨c1,t1,e1⟩:=h1;exact⟨⟨by rw[B6];exact h0,⟨c1,t1,hk.trans e1⟩,(hc 0).trans h2,(hc 1).trans h3,(hc 2).trans h4⟩,Yo (o:=0) hg hB cs 0⟩
theorem Df.env{w0 w w1:World}{b:Nat}{p:Value}{t:List UInt8}{x:Bool}(h:Df w b p t x w1)(h0:Below w0 w0 w)(hb:w0.heap.size<=b):Below w0 w0 w1:=
 h0.grown h.2 h0.size fun k hk=>by injection hk with hk;omega
theorem Dx.set{P:Nat->Prop}{w:World}{v:Value}{ks:List Vl}(h:Dx P w v ks){B:Nat}(hB:¬P B)(cs:List Value):Dx P (w.setCells B 0 cs) v ks:=
 h.grown (Bk B cs 0 w) fun b hb e=>by injection e with e;subst e;exact hB hb
def Km(w:World)(b:Nat)(p:Value)(t:List UInt8)(N:Nat)(r:Option (Vl × List UInt8))(e:Ending)(w':World):Prop:=
 ∃(v:Vl) (sl:Value) (t':List UInt8),e=.returned (D9 v sl)/\Dx (fun b=>w.heap.size<=b) w' sl v.kids/\Df w b p t' r.isNone w'/\(∀x,r=some x->v=x.1/\t'=x.2)/\Bd v/\t'.length<=t.length/\(Bc v).length+t'.length<=t.length+8*N
def En:Vl:=.mk 0 [] 0 []
theorem Et{w:UInt8}{tx:List UInt8}{tg:Nat}(h1:tg<=1000000000)(h3:tx.length<=1000000):Bd (.mk w tx tg []):=.mk h1 dG h3 aL
theorem Rz(k:Kd)(w:World)(c:UInt8)(t:List UInt8)(hs:k.signs=c::t)(hl:t.length<=1000):
  Calls prog 53 #[D2 k] w fun e w'=>e=.returned (D2 k.part)/\Below w w w':=by
 have hp:k.part=⟨t,k.base,k.name⟩:=by unfold Kd.part;rw[hs];rfl
 rw[hp];unfold D2;rw[hs];clear hp hs;go_enter func53,ntmps53;go_wp2_with fail;refine aF (v:=.agg ([t,k.base,k.name]:List Value).toArray) ?_ rfl ?_
 ·refine Az results53 _ _ (w.heap.size+1) _ _ rfl ?_ underlying62 rfl aO;intro j v hv;match j,hv with
  |0,hv=>simp at hv;subst hv;simp[go_sem]
  |1,hv=>simp at hv;subst hv;simp[go_sem]
  |2,hv=>simp at hv;subst hv;simp[go_sem]
  |n+3,hv=>simp at hv
 exact⟨rfl,((Aq _ _).alloc (Ap _) _).alloc aL _⟩
end
end Go.Proofs.YtkgkoicedddkmaaGreatDoor
