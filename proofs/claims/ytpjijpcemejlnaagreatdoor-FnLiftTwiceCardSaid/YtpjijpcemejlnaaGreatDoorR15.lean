/- Texts joined. Conditions: as each theorem names them. -/
import Derived.Deep.RegionWith
import Derived.Laws.Rows
import Derived.Test.YtpjijpcemejlnaaGreatDoorR14
set_option maxRecDepth 100000
set_option maxHeartbeats 32000000
set_option linter.unusedVariables false
set_option linter.unusedSimpArgs false
namespace Go.Proofs.YtpjijpcemejlnaaGreatDoor
open Go.RowKit Go.Proofs.Tryz
section
attribute [local go_sem] Qm0 Ql8 Qlz Qj6 ByteArray.mk_append_mk
def Eh(k:Kd):Value:=.agg #[k.signs,k.base,k.name]
def Kg(o:Option Kd)(w:World)(e:Ending)(w':World):Prop:=
 (match o with
  |some k=>e=.returned (.tuple #[Eh k,.bool true])
  |none=>∃(a b c:ByteArray),e=.returned (.tuple #[.agg #[.string a,.string b,.string c],.bool false]))/\Below w w w'
theorem Kg.no{w w':World}{e:Ending}{o:Option Kd}(ho:o=none){a b c:ByteArray}(he:e=.returned (.tuple #[.agg #[.string a,.string b,.string c],.bool false]))(hb:Below w w w'):Kg o w e w':=by
 rw[ho];exact⟨⟨a,b,c,he⟩,hb⟩
theorem Kg.yes{w w':World}{e:Ending}{o:Option Kd}{k:Kd}(ho:o=some k)(he:e=.returned (.tuple #[Eh k,.bool true]))(hb:Below w w w'):Kg o w e w':=by
 rw[ho];exact⟨he,hb⟩
theorem Qi8(c:UInt8):([91,63]:List UInt8).contains c=Bn c:=by
 have:=Re (p:=fun c=>([91,63]:List UInt8).contains c == Bn c) fX c;simpa using this
theorem Qhk(s:List UInt8):s.dropWhile (([91,63]:List UInt8).contains ·)=s.dropWhile Bn:=by
 congr 1;funext c;exact Qi8 c
theorem Rq(r:List UInt8)(c:UInt8):Lib.hasSuffix r [c]=decide (r.getLast?=some c):=by
 rcases Fi r with rfl|⟨t,d,rfl⟩
 ·rfl
 unfold Lib.hasSuffix List.isSuffixOf;rw[List.reverse_append,List.getLast?_append];by_cases h:c=d
 ·subst h;simp[List.isPrefixOf]
 have h':d≠c:=fun e=>h e.symm;simp[List.isPrefixOf,h,h']
theorem Qdx(s:List UInt8)(h:s.length<=12):∃g r,s=g++r/\s.dropWhile Bn=r /\
  ((∃b,(b=110\/b=116\/b=102)/\r=[b]/\Cx s=some ⟨g,r,[]⟩) \/
   (∃nm,r=64::(nm++[59])/\Cx s=if Be nm=true then some ⟨g,[64],nm⟩else none) \/
   ((r == [110])=false/\(r == [116])=false/\(r == [102])=false/\(r.head?≠some 64\/(r.head?=some 64/\r.getLast?≠some 59))/\Cx s=none)):=by
 refine⟨s.takeWhile Bn,s.dropWhile Bn,List.takeWhile_append_dropWhile.symm,rfl,?_⟩;unfold Cx;rw[if_neg aI];by_cases h1:s.dropWhile Bn=[110]\/s.dropWhile Bn=[116]\/s.dropWhile Bn=[102]
 ·left;rw[if_pos h1];rcases h1 with h|h|h
  ·exact⟨110,by simp,h,rfl⟩
  ·exact⟨116,by simp,h,rfl⟩
  exact⟨102,by simp,h,rfl⟩
 right;rw[if_neg h1];simp only[not_or]at h1;by_cases h2:(s.dropWhile Bn).head?=some 64
 ·by_cases h3:(s.dropWhile Bn).getLast?=some 59
  ·left;have e:=Qft h2 h3;refine⟨((s.dropWhile Bn).drop 1).dropLast,e,?_⟩;by_cases h4:Be ((s.dropWhile Bn).drop 1).dropLast=true
   ·rw[if_pos ⟨h2,h3,h4⟩,if_pos h4]
   rw[if_neg (fun h=>h4 h.2.2),if_neg h4]
  right;refine⟨by simpa using h1.1,by simpa using h1.2.1,by simpa using h1.2.2,.inr ⟨h2,h3⟩,?_⟩;rw[if_neg (fun h=>h3 h.2.1)]
 right;refine⟨by simpa using h1.1,by simpa using h1.2.1,by simpa using h1.2.2,.inl h2,?_⟩;rw[if_neg (fun h=>h2 h.1)]
theorem Tc(s:List UInt8)(w:World)(hs:s.length<=4000000):
  Calls prog 96 #[s] w (Kg (Cx s) w):=by
 rcases aH 12 s.length with h12|h12
 ·have Hn:=Aa (show Cx s=none by unfold Cx;rw[if_pos h12]);go_enter func96,ntmps96;go_wp2_with fail;refine aG (v:=.tuple #[.agg #[aa,aa,aa],.bool false]) (by simp[results,results96,go_sem]) rfl ?_;exact Kg.no Hn.o rfl ((Am _ _).alloc (Ao _) _)
 obtain⟨g,r,hsr,hr,hcase⟩:=Qdx s h12;have hT:=fun W=>Pe s [91,63] W aL aL;simp only[Qhk,hr]at hT;have HT:=Aa hT;have hl:s.length=g.length+r.length:=by rw[hsr];simp
 have Htk:=Aa (show s.take (s.length - r.length)=g by rw[hl,hsr];simp);have k1:(0:Int)<=(s.length:Int) - (r.length:Int):=aI;have k2:(s.length:Int) - (r.length:Int)<=(s.length:Int):=aI;have k3:((s.length:Int) - (r.length:Int)).toNat=s.length - r.length:=aI;have hr12:r.length<=12:=aI;have hl1:r.length<=s.length:=aI;clear hT hr hl hsr;rcases hcase with⟨b,hb,rfl,hk⟩|⟨nm,rfl,hk⟩|⟨q1,q2,q3,hh,hk⟩
 ·have h1:1<=s.length:=by simp at hl1;omega
  have Hg:=Aa (show s.take (s.length - 1)=g by simpa using Htk.o);have Hk:=Aa hk;clear hk k1 k2 k3;rcases hb with rfl|rfl|rfl
  ·go_enter func96,ntmps96;go_wp2_with fail;refine(HT.o _).mono ?_;rintro e w1 ⟨rfl,hb⟩;obtain⟨hc,hfz,hz⟩:=Ci hb;have hzz:=hz w.heap.size aN;have hn1:¬(w1.heap.size=w.heap.size):=aI;have hn2:¬(w.heap.size=w1.heap.size):=aI;have Hb:=Aa (((Am w.heap.size w).alloc (Ao _) _).trans (hb.mono aN));have u0:w1.cell? (w,0)=aa:=hJ;have u1:w1.cell? (w,1)=aa:=hM;have u2:w1.cell? (w,2)=aa:=hY;have fu:∀j,w1.frozen? ⟨w.heap.size,j,none⟩=false:=fun j=>gZ;clear hb hc hfz hz;go_wp2_with fail;refine aG (v:=.tuple #[.agg #[.string ⟨(s.take (s.length - 1)).toArray⟩,.string ⟨#[110]⟩,aa],.bool true]) (by simp[results,results96,go_sem,u0,u1,u2,fu,hn1,hn2,hzz]) rfl ?_;exact Kg.yes Hk.o gy aZ
  ·go_enter func96,ntmps96;go_wp2_with fail;refine(HT.o _).mono ?_;rintro e w1 ⟨rfl,hb⟩;obtain⟨hc,hfz,hz⟩:=Ci hb;have hzz:=hz w.heap.size aN;have hn1:¬(w1.heap.size=w.heap.size):=aI;have hn2:¬(w.heap.size=w1.heap.size):=aI;have Hb:=Aa (((Am w.heap.size w).alloc (Ao _) _).trans (hb.mono aN));have u0:w1.cell? (w,0)=aa:=hJ;have u1:w1.cell? (w,1)=aa:=hM;have u2:w1.cell? (w,2)=aa:=hY;have fu:∀j,w1.frozen? ⟨w.heap.size,j,none⟩=false:=fun j=>gZ;clear hb hc hfz hz;go_wp2_with fail;refine aG (v:=.tuple #[.agg #[.string ⟨(s.take (s.length - 1)).toArray⟩,.string ⟨#[116]⟩,aa],.bool true]) (by simp[results,results96,go_sem,u0,u1,u2,fu,hn1,hn2,hzz]) rfl ?_;exact Kg.yes Hk.o gy aZ
  go_enter func96,ntmps96;go_wp2_with fail;refine(HT.o _).mono ?_;rintro e w1 ⟨rfl,hb⟩;obtain⟨hc,hfz,hz⟩:=Ci hb;have hzz:=hz w.heap.size aN;have hn1:¬(w1.heap.size=w.heap.size):=aI;have hn2:¬(w.heap.size=w1.heap.size):=aI;have Hb:=Aa (((Am w.heap.size w).alloc (Ao _) _).trans (hb.mono aN));have u0:w1.cell? (w,0)=aa:=hJ;have u1:w1.cell? (w,1)=aa:=hM;have u2:w1.cell? (w,2)=aa:=hY;have fu:∀j,w1.frozen? ⟨w.heap.size,j,none⟩=false:=fun j=>gZ;clear hb hc hfz hz;go_wp2_with fail;refine aG (v:=.tuple #[.agg #[.string ⟨(s.take (s.length - 1)).toArray⟩,.string ⟨#[102]⟩,aa],.bool true]) (by simp[results,results96,go_sem,u0,u1,u2,fu,hn1,hn2,hzz]) rfl ?_;exact Kg.yes Hk.o gy aZ
 ·have h1:nm.length+2<=s.length:=by simp at hl1;omega
  have Hg:=Aa (show s.take (s.length - (nm.length+1+1))=g by simpa using Htk.o);have hnl:nm.length<=12:=aI;have hmid:(nm++[59]).take nm.length=nm:=aN;have Hn:=Aa (fun W=>Mm nm W aI);have hp:([64]:List UInt8).isPrefixOf (64::(nm++[59]))=true:=rfl;have hs:Lib.hasSuffix (64::(nm++[59])) [59]=true:=by
   rw[Rq,show (64:UInt8)::(nm++[59])=(64::nm)++[59]from rfl,List.getLast?_append];rfl
  have Hp:=Aa (fun W=>Ro (64::(nm++[59])) [64] W);have Hs:=Aa (fun W=>Rt (64::(nm++[59])) [59] W aO);rw[hp]at Hp;rw[hs]at Hs;clear hp hs k1 k2 k3;rcases Bool.eq_false_or_eq_true (Be nm)with hnm|hnm
  ·rw[if_pos hnm]at hk;rw[hnm]at Hn;have Hk:=Aa hk;clear hk hnm;go_enter func96,ntmps96;go_wp2_with fail;refine(HT.o _).mono ?_;rintro e w1 ⟨rfl,hb⟩;obtain⟨hc,hfz,hz⟩:=Ci hb;have hzz:=hz w.heap.size aN;have hn1:¬(w1.heap.size=w.heap.size):=aI;have hn2:¬(w.heap.size=w1.heap.size):=aI;have Hb:=Aa (((Am w.heap.size w).alloc (Ao _) _).trans (hb.mono aN));have u0:w1.cell? (w,0)=aa:=hJ;have u1:w1.cell? (w,1)=aa:=hM;have u2:w1.cell? (w,2)=aa:=hY;have fu:∀j,w1.frozen? ⟨w.heap.size,j,none⟩=false:=fun j=>gZ;clear hb hc hfz hz;go_wp2_with fail;refine(Hp.o _).mono ?_;rintro e w2 ⟨rfl,rfl⟩;go_wp2_with fail;refine(Hs.o _).mono ?_;rintro e w2 ⟨rfl,rfl⟩;go_wp2_with fail;go_region_with (go_at_call 140;refine(Hn.o _).mono ?_;rintro e w' ⟨rfl,hb6⟩;obtain⟨hc6,hfz6,hz6⟩:=Ci hb6;have y0:w'.cell? (w,0)=aa:=fE;have y1:w'.cell? (w,1)=aa:=fF;have y2:w'.cell? (w,2)=aa:=fG;have y6:=hz6 w.heap.size aO)
   all_goals
    go_wp2
    refine aG (v:=.tuple #[.agg #[.string ⟨(s.take (s.length - (nm.length+1+1))).toArray⟩,.string ⟨#[64]⟩,nm],.bool true]) (by simp[results,results96,go_sem,u0,u1,u2,fu,hn1,hn2,hzz,y0,y1,y2]) rfl ?_;exact Kg.yes Hk.o gy bW
  rw[if_neg (by rw[hnm];decide)]at hk;rw[hnm]at Hn;have Hk:=Aa hk;clear hk hnm;go_enter func96,ntmps96;go_wp2_with fail;refine(HT.o _).mono ?_;rintro e w1 ⟨rfl,hb⟩;obtain⟨hc,hfz,hz⟩:=Ci hb;have hzz:=hz w.heap.size aN;have hn1:¬(w1.heap.size=w.heap.size):=aI;have hn2:¬(w.heap.size=w1.heap.size):=aI;have Hb:=Aa (((Am w.heap.size w).alloc (Ao _) _).trans (hb.mono aN));have u0:w1.cell? (w,0)=aa:=hJ;have u1:w1.cell? (w,1)=aa:=hM;have u2:w1.cell? (w,2)=aa:=hY;have fu:∀j,w1.frozen? ⟨w.heap.size,j,none⟩=false:=fun j=>gZ;clear hb hc hfz hz;go_wp2_with fail;refine(Hp.o _).mono ?_;rintro e w2 ⟨rfl,rfl⟩;go_wp2_with fail;refine(Hs.o _).mono ?_;rintro e w2 ⟨rfl,rfl⟩;go_wp2_with fail;go_region_with (go_at_call 140;refine(Hn.o _).mono ?_;rintro e w' ⟨rfl,hb6⟩;obtain⟨hc6,hfz6,hz6⟩:=Ci hb6;have y0:w'.cell? (w,0)=aa:=fE;have y1:w'.cell? (w,1)=aa:=fF;have y2:w'.cell? (w,2)=aa:=fG;have y6:=hz6 w.heap.size aO)
  all_goals
   go_wp2
   refine aG (v:=.tuple #[.agg #[.string ⟨(s.take (s.length - (nm.length+1+1))).toArray⟩,.string ⟨#[64]⟩,nm],.bool false]) (by simp[results,results96,go_sem,u0,u1,u2,fu,hn1,hn2,hzz,y0,y1,y2]) rfl ?_;exact Kg.no Hk.o rfl bW
 have Hp:=Aa (fun W=>Ro r [64] W);have Hs:=Aa (fun W=>Rt r [59] W aI);have Hk:=Aa hk;have q1':¬(r=[110]):=by simpa using q1
 have q2':¬(r=[116]):=by simpa using q2
 have q3':¬(r=[102]):=by simpa using q3
 clear hk k1 k2 k3;rcases hh with hh|⟨hh,hl2⟩
 ·have hp:([64]:List UInt8).isPrefixOf r=false:=by
   cases r with
   |nil=>rfl
   |cons c r=>simp at hh;simp[List.isPrefixOf];exact fun e=>hh e.symm
  rw[hp]at Hp;clear hp hh;go_enter func96,ntmps96;go_wp2_with fail;refine(HT.o _).mono ?_;rintro e w1 ⟨rfl,hb⟩;obtain⟨hc,hfz,hz⟩:=Ci hb;have hzz:=hz w.heap.size aN;have hn1:¬(w1.heap.size=w.heap.size):=aI;have hn2:¬(w.heap.size=w1.heap.size):=aI;have Hb:=Aa (((Am w.heap.size w).alloc (Ao _) _).trans (hb.mono aN));have u0:w1.cell? (w,0)=aa:=hJ;have u1:w1.cell? (w,1)=aa:=hM;have u2:w1.cell? (w,2)=aa:=hY;have fu:∀j,w1.frozen? ⟨w.heap.size,j,none⟩=false:=fun j=>gZ;clear hb hc hfz hz;go_wp2_with fail;refine(Hp.o _).mono ?_;rintro e w2 ⟨rfl,rfl⟩;go_wp2_with fail;refine aG (v:=.tuple #[.agg #[aa,aa,aa],.bool false]) (by simp[results,results96,go_sem,u0,u1,u2,fu,hn1,hn2,hzz]) rfl ?_;exact Kg.no Hk.o rfl aZ
 have hp:([64]:List UInt8).isPrefixOf r=true:=by
  cases r with
  |nil=>simp at hh
  |cons c r=>simp at hh;subst hh;rfl
 have hs:Lib.hasSuffix r [59]=false:=by rw[Rq];simpa using hl2
 rw[hp]at Hp;rw[hs]at Hs;clear hp hs hh hl2;go_enter func96,ntmps96;go_wp2_with fail;refine(HT.o _).mono ?_;rintro e w1 ⟨rfl,hb⟩;obtain⟨hc,hfz,hz⟩:=Ci hb;have hzz:=hz w.heap.size aN;have hn1:¬(w1.heap.size=w.heap.size):=aI;have hn2:¬(w.heap.size=w1.heap.size):=aI;have Hb:=Aa (((Am w.heap.size w).alloc (Ao _) _).trans (hb.mono aN));have u0:w1.cell? (w,0)=aa:=hJ;have u1:w1.cell? (w,1)=aa:=hM;have u2:w1.cell? (w,2)=aa:=hY;have fu:∀j,w1.frozen? ⟨w.heap.size,j,none⟩=false:=fun j=>gZ;clear hb hc hfz hz;go_wp2_with fail;refine(Hp.o _).mono ?_;rintro e w2 ⟨rfl,rfl⟩;go_wp2_with fail;refine(Hs.o _).mono ?_;rintro e w2 ⟨rfl,rfl⟩;go_wp2_with fail;refine aG (v:=.tuple #[.agg #[aa,aa,aa],.bool false]) (by simp[results,results96,go_sem,u0,u1,u2,fu,hn1,hn2,hzz]) rfl ?_;exact Kg.no Hk.o rfl aZ
end
def Tf(f:Fd):List Value:=[(f.tag:Int),f.name,f.kind.signs,f.kind.base,f.kind.name,f.given]
def ifV(f:Fd):Value:=.agg #[(f.tag:Int),f.name,f.kind.signs,f.kind.base,f.kind.name,f.given]
theorem Qf7(f:Fd):(Tf f).length=6:=rfl
def Rk(w:World)(v:Value)(fs:List Fd):Prop:=∃A c,v=.slice A fs.length c/\fs.length<=8/\Bx w A (fs.length*6) (fs.flatMap Tf)
theorem Rk.below{w w':World}{v:Value}{fs:List Fd}(h:Rk w v fs)(hb:Below w w w'):Rk w' v fs:=by
 exact kY
theorem Rk.at_{w:World}{A:Option Addr}{fs:List Fd}(hr:Bx w A (fs.length*6) (fs.flatMap Tf)){i:Nat}(hi:i<fs.length):
  ∃b off,A=some ⟨b,off,none⟩/\b<w.heap.size/\w.cell? ⟨b,off+i*6,none⟩=some (.int .i64 (fs[i].tag:Int))/\w.cell? ⟨b,off+i*6+1,none⟩=some (.string ⟨fs[i].name.toArray⟩) /\
   w.cell? ⟨b,off+i*6+2,none⟩=some (.string ⟨fs[i].kind.signs.toArray⟩)/\w.cell? ⟨b,off+i*6+3,none⟩=some (.string ⟨fs[i].kind.base.toArray⟩) /\
   w.cell? ⟨b,off+i*6+4,none⟩=some (.string ⟨fs[i].kind.name.toArray⟩)/\w.cell? ⟨b,off+i*6+5,none⟩=some (.string ⟨fs[i].given.toArray⟩):=by
 obtain⟨b,off,e,hlt,hc⟩:=hr.elem Qf7 aL hi;refine⟨b,off,e,hlt,?_,?_,?_,?_,?_,?_⟩
 ·exact kx
 ·exact jS
 ·exact k8
 ·have:=hc 3 _ rfl;simpa [Nat.add_assoc]using this
 ·have:=hc 4 _ rfl;simpa [Nat.add_assoc]using this
 have:=hc 5 _ rfl;simpa [Nat.add_assoc]using this
structure PT where
 ty:Ty
 blk:Nat
 fv:Value
def Qa(w:World)(b:Nat):Prop:=∃cs t,w.heap[b]?=some (.cells cs t (0,0))
theorem Qa.belowAt{B:Nat}{w w':World}{b:Nat}(h:Qa w b)(hb:b<B)(hw:Below B w w'):Qa w' b:=by
 obtain⟨cs,t,h⟩:=h;exact⟨cs,t,(hw.block b hb).trans h⟩
theorem Qa.grown{w w':World}{b:Nat}{row:Option Nat}(h:Qa w b)(hb:b<w.heap.size)(hg:w.grownBy w' row)(hne:some b≠row):Qa w' b:=by
 obtain⟨cs,t,h⟩:=h;exact⟨cs,t,(hg.block b hb hne).trans h⟩
theorem Qa.set{w:World}{b o:Nat}(h:Qa w b)(v:Value):Qa (w.setCell ⟨b,o,none⟩ v) b:=by
 obtain⟨cs,t,h⟩:=h;exact⟨_,t,heap_setCell_same w b o cs t v h⟩
theorem Qa.new(w:World)(cs:Array Value)(t:TypeId):Qa (w.alloc (.cells cs t)) w.heap.size:=⟨cs,t,heap_alloc_new w _⟩
def PT.ptr(x:PT):Value:=x.blk
def Rl(w:World)(x:PT):Prop:=
 x.blk<w.heap.size/\Qa w x.blk/\w.cell? (x.blk,0)=some (.int .u8 (x.ty.sort.toNat:Int))/\w.cell? (x.blk,1)=x.ty.name/\w.cell? (x.blk,2)=some x.fv/\w.cell? (x.blk,3)=some (.string ⟨(Xe x.ty).toArray⟩)/\Rk w x.fv x.ty.fields
theorem Rl.below{w w':World}{x:PT}(h:Rl w x)(hb:Below w w w'):Rl w' x:=by
 obtain⟨h0,hk,h1,h2,h3,h4,h5⟩:=h;obtain⟨hc,_,hz⟩:=Ci hb;exact⟨hz _ h0,hk.belowAt h0 hb,(hc _ _ h0).trans h1,(hc _ _ h0).trans h2,(hc _ _ h0).trans h3,(hc _ _ h0).trans h4,h5.below hb⟩
def Ag(xs:List PT):List Ty:=xs.map (·.ty)
def Fa(xs:List PT)(n:Cl):Option PT:=xs.find? fun x=>decide (x.ty.name=n)
theorem Ji(xs:List PT)(n:Cl):Bp (Ag xs) n=(Fa xs n).map (·.ty):=by
 unfold Bp Ag Fa;rw[List.find?_map];rfl
theorem Gh{xs:List PT}{n:Cl}{x:PT}(h:Fa xs n=some x):x∈xs/\x.ty.name=n/\Bp (Ag xs) n=some x.ty:=by
 refine⟨List.mem_of_find?_eq_some h,?_,by rw[Ji,h];rfl⟩;have:=List.find?_some h;simpa using this
def Qag:Option PT->Value
 |some x=>x.ptr
 |none=>.pointer none
def Yq(xs:List PT)(l:Lit):Value:=match l with|.string s=>Qag (Fa xs s)|_=>.pointer none
theorem Tryz.keyStr:Go.Maps.Keyed prog 9:=Go.Maps.string_keyed underlying9
theorem Tryz.zeroPtr(w:World):(zeroValue 100).run prog w=.ok (.pointer none) w:=aP
def Qt(w:World)(mb:Nat)(xs:List PT):Prop:=Dq prog 9 (.pointer none) w mb xs.length (Yq xs)
def Sw(w:World)(p:Value)(xs:List PT):Prop:=
 ∃b A c mb,p=.pointer (some ⟨b,0,none⟩)/\b<w.heap.size/\w.cell? ⟨b,0,none⟩=some (.slice A xs.length c)/\w.cell? ⟨b,1,none⟩=some (.map (some mb))/\Bx w A xs.length (xs.map (·.ptr))/\Qt w mb xs/\(∀x∈xs,Rl w x)/\xs.Pairwise fun x y=>x.blk≠y.blk
theorem Sw.below{w w':World}{p:Value}{xs:List PT}(h:Sw w p xs)(hb:Below w w w'):Sw w' p xs:=by
 obtain⟨b,A,c,mb,e,h0,h1,h2,h3,h4,h5,h6⟩:=h;obtain⟨hc,_,hz⟩:=Ci hb;exact⟨b,A,c,mb,e,hz _ h0,(hc _ _ h0).trans h1,(hc _ _ h0).trans h2,h3.below hb,Dq.below h4 hb,fun x hx=>(h5 x hx).below hb,h6⟩
theorem Qf9{n:Cl}(h:n.length<=9223372036854775807):keyOf prog 9 n=some (.string n):=by
 have:=Go.WideMaps.keyOf_string_mk (P:=prog) (k:=9) underlying9 (s:=⟨n.toArray⟩) (by unfold maxLen;exact h);simpa using this
def Ec(o:Option Fd)(w:World)(e:Ending)(w':World):Prop:=
 (match o with
  |some f=>e=.returned (.tuple #[ifV f,.bool true])
  |none=>∃(n:Int) (a b c d g:ByteArray),e=.returned (.tuple #[.agg #[.int .i64 n,.string a,.string b,.string c,.string d,.string g],.bool false]))/\Below w w w'
theorem Ec.no{w w':World}{e:Ending}{o:Option Fd}(ho:o=none){n:Int}{a b c d g:ByteArray}(he:e=.returned (.tuple #[.agg #[.int .i64 n,.string a,.string b,.string c,.string d,.string g],.bool false]))(hb:Below w w w'):Ec o w e w':=by
 rw[ho];exact⟨⟨n,a,b,c,d,g,he⟩,hb⟩
theorem Ec.yes{w w':World}{e:Ending}{o:Option Fd}{f:Fd}(ho:o=some f)(he:e=.returned (.tuple #[ifV f,.bool true]))(hb:Below w w w'):Ec o w e w':=by
 rw[ho];exact⟨he,hb⟩
end Go.Proofs.YtpjijpcemejlnaaGreatDoor
