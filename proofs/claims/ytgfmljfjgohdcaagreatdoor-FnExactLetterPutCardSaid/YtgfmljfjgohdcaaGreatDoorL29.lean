/- Texts joined. Conditions: as each theorem names them. -/
import Derived.Test.YtgfmljfjgohdcaaGreatDoorL28
set_option maxRecDepth 100000
set_option maxHeartbeats 32000000
set_option linter.unusedVariables false
set_option linter.unusedSimpArgs false
namespace Go.Proofs.YtgfmljfjgohdcaaGreatDoor
open Go.RowKit Go.Proofs.Tryz
inductive SV where
 |mk (kind text:List UInt8) (tags:List Nat) (kids:List SV)
def Vs(S:List Ty)(k:Kd)(g:Nat):Kd:=match Bu S k.name with
 |some t=>(match Bl t.fields g with|some f=>f.kind|none=>Kd.nil)
 |none=>Kd.nil
mutual
def De(S:List Ty):Kd->Vl->SV
 |k,.mk w tx tg ks=>
  if w=91\/w=63 then .mk (Be k) [] [] (Sh S k.part ks)
  else if w=69 then .mk (Be k) [69] [tg] []
  else if w=85 then .mk (Be k) [85] [tg] (Sh S (Vs S k tg) ks)
  else if w=82 then .mk (Be k) [82] (ks.map Vl.tag) (Qeb S k ks)
  else .mk (Be k) (if w=116 then 39::(tx++[39])else tx) [] []
def Sh(S:List Ty):Kd->List Vl->List SV
 |_,[]=>[]
 |k,x::xs=>De S k x::Sh S k xs
def Qeb(S:List Ty):Kd->List Vl->List SV
 |_,[]=>[]
 |k,.mk _ _ tg ks::xs=>Sh S (Vs S k tg) ks++Qeb S k xs
end
theorem Pk(S:List Ty)(k:Kd):∀ks:List Vl,Sh S k ks=ks.map (De S k)
 |[]=>rfl
 |x::xs=>by rw[Sh,Pk S k xs];rfl
theorem Yj(S:List Ty)(k:Kd):∀ps:List (Fd × Vl),Qeb S k (ps.map Ee)=ps.map fun p=>De S (Vs S k p.1.tag) p.2
 |[]=>rfl
 |p::ps=>by rw[aw,Ee,Qeb,Yj S k ps,Sh,Sh];rfl
theorem Qc9(S:List Ty)(k:Kd)(m:Nat):De S k (.mk 110 (Au m) 0 [])=.mk (Be k) (Au m) [] []:=by simp[De]
theorem Qad(S:List Ty)(k:Kd)(s:List UInt8):De S k (.mk 116 s 0 [])=.mk (Be k) (39::(s++[39])) [] []:=by simp[De]
theorem Zk(S:List Ty)(k:Kd)(s:List UInt8):De S k (.mk 102 s 0 [])=.mk (Be k) s [] []:=by simp[De]
theorem Vg(S:List Ty)(k:Kd)(ks:List Vl):De S k (.mk 91 [] 0 ks)=.mk (Be k) [] [] (ks.map (De S k.part)):=by simp[De,Pk]
theorem Nv(S:List Ty)(k:Kd)(ks:List Vl):De S k (.mk 63 [] 0 ks)=.mk (Be k) [] [] (ks.map (De S k.part)):=by simp[De,Pk]
theorem Ti(S:List Ty)(k:Kd)(g:Nat):De S k (.mk 69 [] g [])=.mk (Be k) [69] [g] []:=by simp[De]
theorem Ts(S:List Ty)(k:Kd)(g:Nat)(x:Vl):De S k (.mk 85 [] g [x])=.mk (Be k) [85] [g] [De S (Vs S k g) x]:=by simp[De,Pk]
theorem V6(S:List Ty)(k:Kd)(ps:List (Fd × Vl)):De S k (.mk 82 [] 0 (ps.map Ee))=.mk (Be k) [82] (ps.map fun p=>p.1.tag) (ps.map fun p=>De S (Vs S k p.1.tag) p.2):=by
 simp[De,Yj];exact fun _ _ _=>rfl
theorem Jd{S:List Ty}{k:Kd}{t:Ty}{f:Fd}(ht:Bu S k.name=some t)(hf:Bl t.fields f.tag=some f):Vs S k f.tag=f.kind:=by unfold Vs;rw[ht];simp only;rw[hf]
def Er(l:List Nat):List Value:=l.map fun(n:Nat)=>.int .i64 (n:Int)
def Et(l:List Nat):List Value:=l.map fun b=>.pointer (b,0)
inductive Fx(P:Nat->Prop)(w:World):Nat->SV->Prop
 |mk {b:Nat} {v:SV} (kind text:List UInt8) (tags:List Nat) (A1 A2:Option Addr) (c1 c2:Nat) (xs:List (Nat × SV)) (hv:v=.mk kind text tags (xs.map (·.2))) (hb:b<w.heap.size) (hP:P b)
   (h0:w.cell? (b,0)=kind) (h1:w.cell? (b,1)=text) (h2:w.cell? (b,2)=some (.slice A1 tags.length c1)) (h3:w.cell? (b,3)=some (.slice A2 xs.length c2))
   (hr1:Cd w A1 tags.length (Er tags)) (hr2:Cd w A2 xs.length (Et (xs.map (·.1)))) (hl1:tags.length<=1000) (hl2:xs.length<=1000) (hp1:∀g o,0<tags.length->A1=some ⟨g,o,none⟩->P g) (hp2:∀g o,0<xs.length->A2=some ⟨g,o,none⟩->P g)
   (h:∀x∈xs,Fx P w x.1 x.2):Fx P w b v
theorem Cd.keptP{P:Nat->Prop}{w w':World}{A:Option Addr}{n:Nat}{xs:List Value}(h:Cd w A n xs)(hP:∀g o,0<n->A=some ⟨g,o,none⟩->P g)(hc:∀b o u,P b->b<w.heap.size->w.cell? ⟨b,o,none⟩=some u->w'.cell? ⟨b,o,none⟩=some u)(hz:w.heap.size<=w'.heap.size):Cd w' A n xs:=by
 refine⟨h.1,h.2.1,fun hn=>?_⟩;obtain⟨b,off,e,hlt,hcs⟩:=h.2.2 hn;exact⟨b,off,e,a8 hlt hz,fun j u hu=>hc b _ u (hP b off hn e) hlt (hcs j u hu)⟩
theorem Fx.kept{P Q:Nat->Prop}{w w':World}{b:Nat}{v:SV}(h:Fx P w b v)(hc:∀b o u,P b->b<w.heap.size->w.cell? ⟨b,o,none⟩=some u->w'.cell? ⟨b,o,none⟩=some u)
  (hz:w.heap.size<=w'.heap.size) (hQ:∀b,P b->b<w.heap.size->Q b):Fx Q w' b v:=by
 induction h with
 |mk kind text tags A1 A2 c1 c2 xs hv hb hP h0 h1 h2 h3 hr1 hr2 hl1 hl2 hp1 hp2 h ih=>
  refine .mk kind text tags A1 A2 c1 c2 xs hv (a8 hb hz) (hQ _ hP hb) (hc _ _ _ hP hb h0) (hc _ _ _ hP hb h1) (hc _ _ _ hP hb h2) (hc _ _ _ hP hb h3) (hr1.keptP hp1 hc hz) (hr2.keptP hp2 hc hz) hl1 hl2 (fun g o hn e=>?_) (fun g o hn e=>?_) ih
  ·obtain⟨b',off,e2,hlt,_⟩:=hr1.2.2 hn;rw[e]at e2;injection e2 with e2;injection e2 with e2 _ _;subst e2;exact hQ g (hp1 g o hn e) hlt
  obtain⟨b',off,e2,hlt,_⟩:=hr2.2.2 hn;rw[e]at e2;injection e2 with e2;injection e2 with e2 _ _;subst e2;exact hQ g (hp2 g o hn e) hlt
theorem Fx.after{P:Nat->Prop}{w w':World}{b:Nat}{v:SV}(h:Fx P w b v)(hb:Below w w w'):Fx P w' b v:=
 h.kept (fun b o u _ hl hu=>(hb.cell (p:=⟨b,o,none⟩) hl).trans hu) hb.size fun _ h _=>h
theorem Fx.mono{P Q:Nat->Prop}{w:World}{b:Nat}{v:SV}(h:Fx P w b v)(hQ:∀b,P b->b<w.heap.size->Q b):Fx Q w b v:=h.kept (fun _ _ _ _ _ hu=>hu) (Am _) hQ
theorem Fx.grown{P:Nat->Prop}{w w':World}{b:Nat}{v:SV}{row:Option Nat}(h:Fx P w b v)(hg:w.grownBy w' row)(hne:∀b,P b->some b≠row):Fx P w' b v:=
 h.kept (fun b o u hp _ hu=>hg.cell hu (hne b hp)) hg.size fun _ h _=>h
section
attribute [local go_sem] Qls Qkr Qj4 Qig ByteArray.mk_append_mk
theorem Rz(c:UInt8)(p:List UInt8):∀(l:List (List UInt8)),As c (l++[p])=if l.length=0 then p else As c l++c::p
 |[]=>rfl
 |[q]=>by simp[As]
 |q::r::l=>by
  have ih:=Rz c p (r::l);rw[ar,Cx c q aH,ih,Cx c q aH];simp
def Dl(l:List UInt8)(w:World)(e:Ending)(w':World):Prop:=e=.returned l/\Below w w w'
theorem Fx.open_{P:Nat->Prop}{w:World}{b:Nat}{kind text:List UInt8}{tags:List Nat}{kids:List SV}(h:Fx P w b (.mk kind text tags kids)):∃(A1 A2:Option Addr) (c1 c2:Nat) (xs:List (Nat × SV)),b<w.heap.size/\P b/\w.cell? (b,0)=kind/\w.cell? (b,1)=text /\
  w.cell? (b,2)=some (.slice A1 tags.length c1)/\w.cell? (b,3)=some (.slice A2 xs.length c2)/\Cd w A1 tags.length (Er tags)/\Cd w A2 xs.length (Et (xs.map (·.1)))/\tags.length<=1000/\xs.length<=1000/\kids=xs.map (·.2)/\∀x∈xs,Fx P w x.1 x.2:=by
 obtain⟨k,t,g,A1,A2,c1,c2,xs,hv,hb,hP,h0,h1,h2,h3,hr1,hr2,hl1,hl2,_,_,h⟩:=h;injection hv with e1 e2 e3 e4;subst e1 e2 e3 e4;exact⟨A1,A2,c1,c2,xs,hb,hP,h0,h1,h2,h3,hr1,hr2,hl1,hl2,rfl,h⟩
theorem Na{xs:List (Nat × SV)}{i:Nat}(hi:i<xs.length):(Et (xs.map (·.1)))[i]'(by simp[Et];exact hi)=.pointer (some ⟨xs[i].1,0,none⟩):=by simp[Et]
theorem Vj{l:List Nat}{i:Nat}(hi:i<l.length):(Er l)[i]'(by simp[Er];exact hi)=.int .i64 (l[i]:Int):=by simp[Er]
theorem Qg(P:Nat->Prop)(b:Nat)(c:UInt8)(tx:List UInt8)(w:World)(hc:c=110\/c=116\/c=102)(h:Fx P w b (.mk [c] tx [] [])):Calls prog 56 #[b] w (Dl tx w):=by
 obtain⟨_,_,_,_,_,hb,_,h0,h1,_⟩:=h.open_;have HR:=Aa h1;rcases hc with rfl|rfl|rfl<;>
 ·go_enter func56,ntmps56;go_wp2_with fail;go_ret;exact i6
theorem Qg2(P:Nat->Prop)(b:Nat)(kr:List UInt8)(kids:List SV)(ks:List Vl)(w:World)(h:Fx P w b (.mk (91::kr) [] [] kids))(hkr:kr.length<=100)(hl:(Bi (.mk 91 [] 0 ks)).length<=100000000)(hkl:kids.length=ks.length)
  (ih:∀(i:Nat) (hi:i<kids.length) (hi2:i<ks.length) b W,Fx P W b kids[i]->(Bi ks[i]).length<=100000000->Calls prog 56 #[.pointer (some ⟨b,0,none⟩)] W (Dl (Bi ks[i]) W)):
  Calls prog 56 #[.pointer (some ⟨b,0,none⟩)] w (Dl (Bi (.mk 91 [] 0 ks)) w):=by
 obtain⟨A1,A2,c1,c2,xs,hb,_,h0,_,_,h3,_,hr2,_,hxl,rfl,hk⟩:=h.open_;have HF:=Aa (Ji ks);have hjl:(As 44 (ks.map Bi)).length<=100000000:=by rw[Ji]at hl;simp at hl;omega
 rw[Cj]at hjl
 have Hjt:=Aa (fun i (hi:i<ks.length)=>(show Ef ((ks.take (i+1)).map Bi)<=Ef (ks.map Bi)/\(Bi ks[i]).length+1+Ef ((ks.take i).map Bi)=Ef ((ks.take (i+1)).map Bi)from by
  refine⟨?_,?_⟩
  ·conv=>rhs;rw[<-List.take_append_drop (i+1) ks,ax]
   exact iR
  rw[By ks i hi,ax];simp[Ef];omega))
 have hkl2:xs.length=ks.length:=eo;have Ih:=Aa ih;have Hr:=Aa hr2;have Hk:=Aa hk;have Hkl:=Aa hkl2;have Hlen:=Aa hjl;have hle:ks.length<=xs.length:=aF;clear hkl hkl2 ih hr2 hk h hl hjl;go_enter func56,ntmps56;go_wp2_with fail;go_loopw [4,3] (fun i s wr=>∃m:Nat,i=.int .i64 m/\m<=xs.length/\s=.string ⟨(91::As 44 ((ks.take m).map Bi):List UInt8).toArray⟩/\Hid (Below w w wr)) (fun i _ _=>xs.length - (intOf i).toNat)
 case atStart=>exact⟨0,rfl,ae _,rfl,Ar _ _⟩
 case round=>
  obtain⟨m,rfl,hm,rfl,Hbr⟩:=hrel;have m1:(0:Int)<=(m:Int):=aF;have g3:=(Hbr.o.cell (p:=⟨b,3,none⟩) hb).trans h3;have hbw:b<wr.heap.size:=cZ;have HJ:=Aa (Cj 44 ((ks.take m).map Bi));by_cases hlt:m<xs.length
  ·have m2:(m:Int)<(xs.length:Int):=aF;have hltk:m<ks.length:=cw;obtain⟨b8,o8,rfl,hb8,hc8⟩:=(Hr.o.below Hbr.o).at_ hlt;rw[Na hlt]at hc8;have HX:=Aa (fun W (hW:Below w w W)=>Ih.o m ep hltk xs[m].1 W cM (by obtain⟨q1,q2⟩:=Hjt.o m hltk;have:=Hlen.o;omega));obtain⟨q1,q2⟩:=Hjt.o m hltk;have hjm:(As 44 ((ks.take m).map Bi)).length<=100000000:=by rw[HJ.o];have:=Hlen.o;omega
   have hpm:(Bi ks[m]).length<=100000000:=by have:=Hlen.o;omega
   have HP:=Aa (show As 44 ((ks.take (m+1)).map Bi)=if m=0 then Bi ks[m]else As 44 ((ks.take m).map Bi)++44::Bi ks[m]from by
    rw[By ks m hltk,ax,List.map_singleton,Rz];have:((ks.take m).map Bi).length=m:=aL;rw[this])
   have HP0:=@Aa (m=0->As 44 ((ks.take m).map Bi)=[]) (by rintro rfl;rfl);clear q1 q2;generalize Bi ks[m]=pm at *;generalize As 44 ((ks.take m).map Bi)=jm at *;generalize xs[m].1=bm at *;by_cases h0m:m=0
   ·have t0:¬(0<m):=aF;have t1:¬((0:Int)<(m:Int)):=aF;have HP1:=Aa (HP.o.trans (if_pos h0m));have HP2:=Aa (HP0.o h0m);clear h0m HP HP0 HJ;go_wp2_with fail;refine(HX.o _ Hbr.o).mono ?_;rintro e w3 ⟨rfl,hb3⟩;have Hb3:=Aa (Hbr.o.trans (hb3.mono Hbr.o.size));clear hb3;go_wp2_with fail;go_roundw
    case rel=>exact⟨m+1,by go_num,by omega,by rw[HP1.o,HP2.o];rfl,Hb3.o⟩
    case measure=>simp[intOf];omega
   have t0:0<m:=aF;have t1:(0:Int)<(m:Int):=aF;have HP1:=Aa (HP.o.trans (if_neg h0m));clear h0m HP HP0 HJ;go_wp2_with fail;refine(HX.o _ Hbr.o).mono ?_;rintro e w3 ⟨rfl,hb3⟩;have Hb3:=Aa (Hbr.o.trans (hb3.mono Hbr.o.size));clear hb3;go_wp2_with fail;go_roundw
   case rel=>exact⟨m+1,by go_num,by omega,by rw[HP1.o]<;>simp,Hb3.o⟩
   case measure=>simp[intOf];omega
  ·have em:m=ks.length:=cw;have HE:=Aa (show As 44 ((ks.take m).map Bi)=As 44 (ks.map Bi)by rw[em,List.take_length]);have hjm:(As 44 ((ks.take m).map Bi)).length<=100000000:=by rw[HE.o,Cj];exact Hlen.o
   clear em HJ;generalize As 44 ((ks.take m).map Bi)=jm at *;go_wp2_with fail;go_ret;exact⟨by rw[HF.o,<-HE.o];rfl,Hbr.o⟩
theorem Qa9(P:Nat->Prop)(b:Nat)(kr:List UInt8)(kids:List SV)(o:Option Vl)(w:World)(h:Fx P w b (.mk (63::kr) [] [] kids))(hkr:kr.length<=100)(hl:(Bi (.mk 63 [] 0 o.toList)).length<=100000000)(hkl:kids.length=o.toList.length)
  (ih:∀x,o=some x->∀b W y,y∈kids->Fx P W b y->Calls prog 56 #[.pointer (some ⟨b,0,none⟩)] W (Dl (Bi x) W)):
  Calls prog 56 #[.pointer (some ⟨b,0,none⟩)] w (Dl (Bi (.mk 63 [] 0 o.toList)) w):=by
 obtain⟨A1,A2,c1,c2,xs,hb,_,h0,_,_,h3,_,hr2,_,hxl,rfl,hk⟩:=h.open_;cases o with
 |none=>
  have hx0:xs=[]:=eo;subst hx0;clear hk hr2 ih h;go_enter func56,ntmps56;go_wp2_with fail;go_ret;exact i6
 |some x=>
  obtain⟨⟨bx,y⟩,rfl⟩:∃a,xs=[a]:=by
   cases xs with
   |nil=>simp at hkl
   |cons a l=>cases l with
    |nil=>exact⟨a,rfl⟩
    |cons b l=>simp at hkl
  have HF:=Aa (show Bi (.mk 63 [] 0 [x])=43::Bi x by simp[Bi,D7,H9,As]);have hpl:(Bi x).length<=100000000:=by have:=HF.o;simp only[Option.toList]at hl;rw[this]at hl;simp at hl;omega
  obtain⟨b8,o8,rfl,hb8,hc8⟩:=hr2.at_ (show 0<1 by decide);simp[Et]at hc8;have HX:=Aa (ih x rfl bx w y aH (hk (bx,y) aH));simp only[List.length_singleton]at h3;clear hk hr2 ih h hkl;generalize Bi x=px at *;go_enter func56,ntmps56;go_wp2_with fail;refine HX.o.mono ?_;rintro e w3 ⟨rfl,hb3⟩;have Hb3:=Aa hb3;clear hb3;go_wp2_with fail;go_ret;exact⟨by show _=Ending.returned (.string ⟨(Bi (.mk 63 [] 0 [x])).toArray⟩);rw[HF.o];rfl,Hb3.o⟩
theorem Yy(l:List UInt8)(w:World)(hn:l.length<2097152):Calls prog 143 #[l] w (Dl (Re l) w):=by
 have h3:=Cb l.length;have HN:=Aa (fun W=>Mk l.length W hn);go_enter func143,ntmps143;go_wp2_with fail;refine(HN.o _).mono ?_;rintro e w1 ⟨rfl,hb⟩;have Hb:=Aa hb;clear hb;go_wp2_with fail;go_ret;exact⟨rfl,Hb.o⟩
theorem Qk7(P:Nat->Prop)(b m:Nat)(w:World)(hm:m<=999999)(h:Fx P w b (.mk [110] (Au m) [] [])):Calls prog 85 #[b] w (Dl (Dg m) w):=by
 obtain⟨_,_,_,_,_,hb,_,h0,h1,_⟩:=h.open_;have hd:Cg (Au m)=some m:=Br.2 ⟨by omega,rfl⟩;have hl:=Di 6 m eX;have HL:=Aa (fun W=>C9 (Au m) 999999 W aF aI);have HN:=Aa (fun W=>Mk m W aF);have HD:=Aa hd;clear hd h;generalize Au m=tx at *;go_enter func85,ntmps85;go_wp2_with fail;refine(HL.o _).mono ?_;rintro e w1 ⟨n,hn,rfl,hn2,hb1⟩;obtain rfl:=hn2 m HD.o;have Hb1:=Aa hb1;clear hb1 hn2;generalize Do tx 999999=ok;go_wp2_with fail;refine(HN.o _).mono ?_;rintro e w2 ⟨rfl,hb2⟩;have Hb2:=Aa (Hb1.o.trans (hb2.mono Hb1.o.size));clear hb2;go_wp2_with fail;exact iS
theorem Qk8(P:Nat->Prop)(b:Nat)(tx:List UInt8)(w:World)(ht:tx.length<=1000000)(h:Fx P w b (.mk [116] (39::(tx++[39])) [] [])):Calls prog 85 #[b] w (Dl (Re tx) w):=by
 obtain⟨_,_,_,_,_,hb,_,h0,h1,_⟩:=h.open_;have HL:=Aa (fun W (_:Below w w W)=>Yy tx W aF);obtain⟨tt,htt⟩:∃tt:List UInt8,tt=39::(tx++[39]):=⟨_,rfl⟩
 have hl:tt.length=tx.length+2:=by rw[htt];simp
 have hc:List.take tx.length tt.tail=tx:=by rw[htt];simp
 have z1:IntKind.i64.wrap ((tx.length:Int)+2 - 1)=(tx.length:Int)+1:=fC;have z2:(0:Int)<=(tx.length:Int)+1:=aF;have z3:(tx.length:Int)+1<=(tx.length:Int)+2:=aF;have z4:(1:Int)<=(tx.length:Int)+1:=aF;have z5:((tx.length:Int)+1).toNat - 1=tx.length:=aF;rw[<-htt]at h1;clear htt h;go_enter func85,ntmps85;go_wp2_with fail;refine rgB ?_;iterate 11 refine sq ?_
 refine sqC HL.o ?_;refine sq ?_;refine dnB fun w1 Hb1=>?_;go_wp2_with fail;exact iF
theorem Qkv(P:Nat->Prop)(b:Nat)(x:Bool)(w:World)(h:Fx P w b (.mk [102] (if x then Dy else Kh) [] [])):Calls prog 85 #[b] w (Dl [if x then 1 else 0] w):=by
 obtain⟨_,_,_,_,_,hb,_,h0,h1,_⟩:=h.open_;have hcv0:=fun W g (h:W.cell? (g,0)=some (.int .u8 0))=>Py W g 1 0 h;have hcv1:=fun W g (h:W.cell? (g,0)=some (.int .u8 1))=>Py W g 1 1 h;cases x<;>
 ·have h1':=h1;simp only[Dy,Kh,ak,if_true,if_false]at h1';clear h h1;go_enter func85,ntmps85;go_wp2_with fail;exact iH
theorem Qit(P:Nat->Prop)(b:Nat)(kr:List UInt8)(kids:List SV)(ks:List Vl)(w:World)(h:Fx P w b (.mk (91::kr) [] [] kids))(hkr:kr.length<=100)(hl:(Dp (.mk 91 [] 0 ks)).length<=1000000)(hkl:kids.length=ks.length)
  (ih:∀(i:Nat) (hi:i<kids.length) (hi2:i<ks.length) b W,Fx P W b kids[i]->(Dp ks[i]).length<=1000000->Calls prog 85 #[b] W (Dl (Dp ks[i]) W)):
  Calls prog 85 #[b] w (Dl (Dp (.mk 91 [] 0 ks)) w):=by
 obtain⟨A1,A2,c1,c2,xs,hb,_,h0,_,_,h3,_,hr2,_,hxl,rfl,hk⟩:=h.open_;rw[Y7]at hl ⊢;have hkl2:ks.length=xs.length:=by simpa using hkl.symm
 have Ih:=Aa ih;have Hr:=Aa hr2;have Hk:=Aa hk;have Hkl:=Aa hkl2;have HN:=Aa (fun W=>Mk xs.length W aF);rw[hkl2]at hl ⊢;obtain⟨T,hT⟩:∃T,T=Dg xs.length++(ks.map Dp).flatten:=⟨_,rfl⟩
 rw[<-hT]at hl ⊢;have HT:=@Aa (Dg xs.length++((ks.drop 0).map Dp).flatten=T) hT.symm;clear hkl hkl2 ih hr2 hk h hT;go_enter func85,ntmps85;go_wp2_with fail;refine(HN.o _).mono ?_;rintro e w1 ⟨rfl,hb1⟩;have Hb1:=Aa hb1;clear hb1;go_wp2_with fail;go_loopw [6,5] (fun i s wr=>∃(m:Nat) (acc:List UInt8),i=.int .i64 m/\m<=xs.length/\s=acc/\Hid (acc++((ks.drop m).map Dp).flatten=T)/\Hid (Below w w wr)) (fun i _ _=>xs.length - (intOf i).toNat)
 case atStart=>exact⟨0,_,rfl,ae _,rfl,HT.o,Hb1.o⟩
 case round=>
  obtain⟨m,acc,rfl,hm,rfl,Hacc,Hbr⟩:=hrel;have m1:(0:Int)<=(m:Int):=aF;have g3:=(Hbr.o.cell (p:=⟨b,3,none⟩) hb).trans h3;have hbw:b<wr.heap.size:=cZ;have hal:acc.length+(((ks.drop m).map Dp).flatten).length<=1000000:=by have:=congrArg List.length Hacc.o;rw[af]at this;omega
  by_cases hlt:m<xs.length
  ·have m2:(m:Int)<(xs.length:Int):=aF;have hltk:m<ks.length:=cw;obtain⟨b8,o8,rfl,hb8,hc8⟩:=(Hr.o.below Hbr.o).at_ hlt;rw[Na hlt]at hc8;have hdr:=List.drop_eq_getElem_cons hltk;rw[hdr,aw,List.flatten_cons,af]at hal;have HX:=Aa (fun W (hW:Below w w W)=>Ih.o m ep hltk xs[m].1 W cM aF);have HA:=@Aa ((acc++Dp ks[m])++((ks.drop (m+1)).map Dp).flatten=T) (by have:=Hacc.o;rw[hdr,aw,List.flatten_cons,<-List.append_assoc]at this;exact this);have hal2:acc.length+(Dp ks[m]).length<=1000000:=aF;clear hdr hal;generalize Dp ks[m]=pm at *;generalize xs[m].1=bm at *;go_wp2_with fail;refine(HX.o _ Hbr.o).mono ?_;rintro e w3 ⟨rfl,hb3⟩;have Hb3:=Aa (Hbr.o.trans (hb3.mono Hbr.o.size));clear hb3;go_wp2_with fail;go_roundw
   case rel=>exact⟨m+1,_,by go_num,by omega,rfl,HA.o,Hb3.o⟩
   case measure=>simp[intOf];omega
  ·have HE:=@Aa (acc=T) (by have:=Hacc.o;rwa [List.drop_eq_nil_of_le cw,List.map_nil,List.flatten_nil,List.append_nil]at this);go_wp2_with fail;go_ret;exact⟨by rw[HE.o];rfl,Hbr.o⟩
def ByR(w:World)(la lc:Bool)(ua:Value)(W:World):Prop:=Below w w W/\(la=true->lc=false->∃g,ua=.slice (some ⟨g,0,none⟩) 1 1/\g<W.heap.size/\W.cell? ⟨g,0,none⟩=some (.int .u8 1))
theorem ByR.below{w W W':World}{la lc:Bool}{ua:Value}(h:ByR w la lc ua W)(hb:Below W W W'):ByR w la lc ua W':=by
 refine⟨h.1.trans (hb.mono h.1.size),fun h1 h2=>?_⟩;obtain⟨g,e,h3,h4⟩:=h.2 h1 h2;exact⟨g,e,a8 h3 hb.size,(hb.cell (p:=⟨g,0,none⟩) h3).trans h4⟩
theorem Qd3(P:Nat->Prop)(b:Nat)(kr:List UInt8)(kids:List SV)(o:Option Vl)(w:World)(h:Fx P w b (.mk (63::kr) [] [] kids))(hkr:kr.length<=100)(hl:(Dp (.mk 63 [] 0 o.toList)).length<=1000000)(hkl:kids.length=o.toList.length)
  (ih:∀x,o=some x->∀b W y,y∈kids->Fx P W b y->Calls prog 85 #[.pointer (some ⟨b,0,none⟩)] W (Dl (Dp x) W)):
  Calls prog 85 #[.pointer (some ⟨b,0,none⟩)] w (Dl (Dp (.mk 63 [] 0 o.toList)) w):=by
 obtain⟨A1,A2,c1,c2,xs,hb,_,h0,_,_,h3,_,hr2,_,hxl,rfl,hk⟩:=h.open_;cases o with
 |none=>
  have hx0:xs=[]:=eo;subst hx0;have hcv0:=fun W g (h:W.cell? ⟨g,0,none⟩=some (.int .u8 0))=>Py W g 1 0 h;simp only[Option.toList];rw[Qac];clear hk hr2 ih h hl;go_enter func85,ntmps85;go_wp2_with fail;exact iH
 |some x=>
  obtain⟨⟨bx,y⟩,rfl⟩:∃a,xs=[a]:=by
   cases xs with
   |nil=>simp at hkl
   |cons a l=>cases l with
    |nil=>exact⟨a,rfl⟩
    |cons b l=>simp at hkl
  simp only[Option.toList]at hl ⊢;rw[Rb]at hl ⊢;simp only[List.length_cons]at hl;have q1:¬(9223372036854775807<1+(Dp x).length):=aF;obtain⟨b8,o8,rfl,hb8,hc8⟩:=hr2.at_ (show 0<1 by decide);simp[Et]at hc8;have HX:=Aa (fun W (hW:Below w w W)=>ih x rfl bx W y aH ((hk (bx,y) aH).after hW));simp only[List.length_singleton]at h3;clear hk hr2 ih h hkl;generalize Dp x=px at *;go_enter func85,ntmps85;go_wp2_with fail;refine rgF (fun l u W=>ByR w (l 0) (l 1) (u 0) W) (Gr w) (fun _ _ _ h=>P8 h.1) ⟨(Ar _ _).drew,fun h=>Bool.noConfusion h⟩ ?_
  refine sqX (fun v=>∃g,v=.slice (some ⟨g,0,none⟩) 1 1) (by
   intro l u W hl hp hF hG hi K hK;have h:ByR w (l 0) (l 1) (u 0) W:=hF.o;clear hp hG hi;go_simp;exact hK _ _ _ ⟨_,rfl⟩ ⟨h.1.alloc h.1.size _,fun _ _=>⟨W.heap.size,rfl,by simp,by simp⟩⟩ rfl) ?_
  refine sqX (fun v=>v=.string ⟨#[1]⟩) (by
   intro l u W hl hp hF hG hi K hK;have h:ByR w (l 0) (l 1) (u 0) W:=hF.o;simp[Region.binds,Fz]at hp;obtain⟨g,e,_,h4⟩:=h.2 hp.1 hl;have hcv:=Py W g 1 1 h4;clear hG hi hp h4;go_simp;exact hK _ _ _ rfl ⟨h.1,fun _ h=>by simp at h⟩ (by simp[Act.put,e])) ?_
  iterate 6 refine sq ?_
  refine sqB (fun _ _ _ h=>h.1) (fun _ _ _ _ h hb=>h.below hb) HX.o ?_;iterate 2 refine sq ?_
  intro l u W _ hu hR;simp only[Qbr,List.nil_append,ar,aj,Nat.reduceAdd]at hu;obtain⟨⟨g,e0⟩,hu⟩:=hu;simp only[e0,hu];have Hb3:=Aa hR.1;clear hR hu e0;go_wp2_with fail;exact iT
def Z8:List Nat->List (List UInt8)->List UInt8
 |[],_=>[]
 |g::gs,[]=>Dg g++Z8 gs []
 |g::gs,b::bs=>Dg g++(Re b++Z8 gs bs)
theorem Qgd{gs:List Nat}{bs:List (List UInt8)}{m:Nat}(h:m<gs.length):Z8 (gs.drop m) (bs.drop m)=Dg gs[m]++((if h2:m<bs.length then Re bs[m]else[])++Z8 (gs.drop (m+1)) (bs.drop (m+1))):=by
 rw[List.drop_eq_getElem_cons h];by_cases h2:m<bs.length
 ·rw[dif_pos h2,List.drop_eq_getElem_cons h2];rfl
 rw[dif_neg h2,show bs.drop m=[]from List.drop_eq_nil_of_le aF,show bs.drop (m+1)=[]from List.drop_eq_nil_of_le aF];simp[Z8]
theorem Zw(P:Nat->Prop)(b:Nat)(kr tx:List UInt8)(tags:List Nat)(kids:List SV)(bs:List (List UInt8))(w:World)(h:Fx P w b (.mk (64::kr) tx tags kids))(hkr:kr.length<=100)(ht:tx=[69]\/tx=[85]\/tx=[82])(htg:∀g∈tags,g<=200)(hkl:kids.length=bs.length)
  (hl:(Z8 tags bs).length<=1000000)
  (ih:∀(i:Nat) (hi:i<kids.length) (hi2:i<bs.length) b W,Fx P W b kids[i]->bs[i].length<=1000000->Calls prog 85 #[b] W (Dl bs[i] W)):
  Calls prog 85 #[b] w (Dl (Z8 tags bs++if tx=[82]then[0]else[]) w):=by
 obtain⟨A1,A2,c1,c2,xs,hb,_,h0,h1,h2,h3,hr1,hr2,hgl,hxl,rfl,hk⟩:=h.open_;have hkl2:bs.length=xs.length:=by simpa using hkl.symm
 have Ih:=Aa ih;have Hr1:=Aa hr1;have Hr:=Aa hr2;have Hk:=Aa hk;have Hkl:=Aa hkl2;have Htg:=Aa htg;have hcv0:=fun W g (h:W.cell? (g,0)=some (.int .u8 0))=>Py W g 1 0 h;obtain⟨T,hT⟩:∃T,T=Z8 tags bs:=⟨_,rfl⟩
 rw[<-hT]at hl ⊢;have HT:=@Aa (Z8 (tags.drop 0) (bs.drop 0)=T) hT.symm;have H1:=Aa h1;obtain⟨z,hz⟩:∃z:List UInt8,z=if tx=[82]then[0]else[]:=⟨_,rfl⟩
 rw[<-hz];have HZ:=Aa hz;clear hz hkl hkl2 ih hr1 hr2 hk h hT htg h1;go_enter func85,ntmps85;go_wp2_with fail;go_loopw [8,7] (fun i s wr=>∃(m:Nat) (acc:List UInt8),i=.int .i64 m/\m<=tags.length/\s=acc/\Hid (acc++Z8 (tags.drop m) (bs.drop m)=T)/\Hid (Below w w wr)) (fun i _ _=>tags.length - (intOf i).toNat)
 case atStart=>exact⟨0,[],rfl,ae _,rfl,HT.o,Ar _ _⟩
 case round=>
  obtain⟨m,acc,rfl,hm,rfl,Hacc,Hbr⟩:=hrel;have m1:(0:Int)<=(m:Int):=aF;have g2:=(Hbr.o.cell (p:=⟨b,2,none⟩) hb).trans h2;have g3:=(Hbr.o.cell (p:=⟨b,3,none⟩) hb).trans h3;have hbw:b<wr.heap.size:=cZ;by_cases hlt:m<tags.length
  ·have m2:(m:Int)<(tags.length:Int):=aF;obtain⟨b6,o6,rfl,hb6,hc6⟩:=(Hr1.o.below Hbr.o).at_ hlt;rw[Vj hlt]at hc6;have hgt:=Htg.o _ (ac hlt);have HN:=Aa (fun W=>Mk tags[m] W aF);have hst:=Hacc.o;rw[Qgd hlt]at hst;have hal:=congrArg List.length hst;simp only[af]at hal;generalize tags[m]=g at *;by_cases hlx:m<xs.length
   ·have m3:(m:Int)<(xs.length:Int):=aF;have hltk:m<bs.length:=cw;obtain⟨b8,o8,rfl,hb8,hc8⟩:=(Hr.o.below Hbr.o).at_ hlx;rw[Na hlx]at hc8;rw[dif_pos hltk]at hal hst;have hsz:bs[m].length<=(Re bs[m]).length:=by simp[Re]
    have HX:=Aa (fun W (hW:Below w w W)=>Ih.o m (by simpa using hlx) hltk xs[m].1 W (by rw[List.getElem_map];exact(Hk.o _ (ac hlx)).after hW) aF);have HA:=@Aa ((acc++(Dg g++Re bs[m]))++Z8 (tags.drop (m+1)) (bs.drop (m+1))=T) (by rw[<-hst];simp);have HL:=Aa (fun W=>Yy bs[m] W aF);clear hst;generalize bs[m]=pm at *;generalize xs[m].1=bm at *;have hal2:acc.length+(Dg g).length+(Re pm).length<=1000000:=aF;clear hal;go_wp2_with fail;refine(HN.o _).mono ?_;rintro e w2 ⟨rfl,hb2⟩;have Hb2:=Aa (Hbr.o.trans (hb2.mono Hbr.o.size));replace g2:=(hb2.cell (p:=⟨b,2,none⟩) hbw).trans g2
    replace g3:=(hb2.cell (p:=⟨b,3,none⟩) hbw).trans g3
    replace hc8:=(hb2.cell (p:=⟨b8,o8+m,none⟩) hb8).trans hc8
    have hbw2:b<w2.heap.size:=dK;clear hb2 hc6;go_wp2_with fail;refine(HX.o _ Hb2.o).mono ?_;rintro e w3 ⟨rfl,hb3⟩;have Hb3:=Aa (Hb2.o.trans (hb3.mono Hb2.o.size));replace g2:=(hb3.cell (p:=⟨b,2,none⟩) hbw2).trans g2
    clear hb3;go_wp2_with fail;refine(HL.o _).mono ?_;rintro e w4 ⟨rfl,hb4⟩;have Hb4:=Aa (Hb3.o.trans (hb4.mono Hb3.o.size));clear hb4;go_wp2_with fail;go_roundw
    case rel=>exact⟨m+1,_,by go_num,by omega,rfl,HA.o,Hb4.o⟩
    case measure=>simp[intOf];omega
   have m3:¬((m:Int)<(xs.length:Int)):=aF;rw[dif_neg cw]at hal hst;have HA:=@Aa ((acc++Dg g)++Z8 (tags.drop (m+1)) (bs.drop (m+1))=T) (by rw[<-hst];simp);have hal2:acc.length+(Dg g).length<=1000000:=aF;clear hst hal;go_wp2_with fail;refine(HN.o _).mono ?_;rintro e w2 ⟨rfl,hb2⟩;have Hb2:=Aa (Hbr.o.trans (hb2.mono Hbr.o.size));replace g2:=(hb2.cell (p:=⟨b,2,none⟩) hbw).trans g2
   replace g3:=(hb2.cell (p:=⟨b,3,none⟩) hbw).trans g3
   clear hb2 hc6;go_wp2_with fail;go_roundw
   case rel=>exact⟨m+1,_,by go_num,by omega,rfl,HA.o,Hb2.o⟩
   case measure=>simp[intOf];omega
  ·have HE:=@Aa (acc=T) (by have:=Hacc.o;rwa [List.drop_eq_nil_of_le aF,Z8,List.append_nil]at this);have hal:acc.length<=1000000:=by rw[HE.o];exact hl
   have g1:=(Hbr.o.cell (p:=⟨b,1,none⟩) hb).trans H1.o;rcases ht with rfl|rfl|rfl
   ·exact gP
   ·exact gP
   go_wp2_with fail;go_ret;exact⟨by rw[HE.o,HZ.o];rfl,Hbr.o.alloc Hbr.o.size _⟩
theorem Z7:∀ps:List (Fd × Vl),Z8 (ps.map fun p=>p.1.tag) (ps.map fun p=>Dp p.2)=(ps.map fun p=>Dg p.1.tag++Re (Dp p.2)).flatten
 |[]=>rfl
 |p::ps=>by simp[Z8,Z7 ps]
theorem Qje{S:List Ty}(hT:∀t∈S,En t)(P:Nat->Prop):∀(d:Nat) (k:Kd) (v:Vl),Nm S d k v->Cs k->∀(b:Nat) (w:World),Fx P w b (De S k v)->(Dp v).length<=1000000->Calls prog 85 #[b] w (Dl (Dp v) w):=by
 intro d
 induction d with
 |zero=>intro k v h;cases h
 |succ d ih=>
  intro k v h hk b w hw hl
  have hkl:=hk.2.2
  cases h with
  |@n _ _ m hs hb h=>
   rw[Qc9,show Be k=[110]by unfold Be Bk;rw[hs,hb];rfl]at hw
   rw[Qhf h]
   exact Qk7 P b m w h hw
  |@t _ _ s hs hb h=>
   rw[Qad,show Be k=[116]by unfold Be Bk;rw[hs,hb];rfl]at hw
   rw[Qef]at hl ⊢
   exact Qk8 P b s w (by simp[Re]at hl;omega) hw
  |@f _ _ x hs hb=>
   rw[Zk,show Be k=[102]by unfold Be Bk;rw[hs,hb];rfl]at hw
   rw[Qhx]
   exact Qkv P b x w hw
  |@lst _ _ r ks hs hl2 h=>
   have e:Be k=91::(r++Bk k):=cm
   rw[Vg,e]at hw
   rw[e]at hkl
   refine Qit P b _ _ ks w hw bI hl aH fun i hi hi2 b W hW hl3=>?_
   rw[List.getElem_map]at hW
   exact ih _ _ (h _ (ac hi2)) (M8 hk).1 b W hW hl3
  |@non _ _ r hs=>
   have e:Be k=63::(r++Bk k):=cm
   rw[Nv,e]at hw
   rw[e]at hkl
   exact Qd3 P b _ _ none w hw bI hl rfl aH
  |@som _ _ r x hs h=>
   have e:Be k=63::(r++Bk k):=cm
   rw[Nv,e]at hw
   rw[e]at hkl
   have hl3:(Dp x).length<=1000000:=by have:=hl;rw[Rb]at this;simp at this;omega
   refine Qd3 P b _ _ (some x) w hw bI hl rfl fun y hy b W z hz hW=>?_
   injection hy with hy
   subst hy
   simp at hz
   subst hz
   exact ih _ _ h (M8 hk).1 b W hW hl3
  |@enm _ _ t f hs hb ht h9 hf=>
   have e:Be k=64::(k.name++[59]):=bQ
   rw[Ti,e]at hw
   rw[e]at hkl
   have:=Zw P b _ [69] [f.tag] [] [] w hw bI (.inl rfl) (by simpa using((hT t (Ch ht).1).2.2.1.1 f (Ci hf).2).2.1) rfl (by have:=Cb f.tag;simp[Z8];omega) aH
   rw[Zx]
   simpa [Z8]using this
  |@uni _ _ t f x hs hb ht h5 hf h=>
   have e:Be k=64::(k.name++[59]):=bQ
   rw[Ts,e,Jd ht hf]at hw
   rw[e]at hkl
   have hkf:=Sj hT ht eJ (Ci hf).2
   rw[Zs]at hl ⊢
   have:=Zw P b _ [85] [f.tag] _ [Dp x] w hw bI (.inr (.inl rfl)) (by simpa using hkf.2) rfl (by simpa [Z8]using hl) fun i hi hi2 b W hW hl3=>(by
    have e0:i=0:=by simp at hi;exact hi
    subst e0
    exact ih _ _ h hkf.1 b W hW hl3)
   simpa [Z8]using this
  |@rcd _ _ t fs hs hb ht h2 hf h hn hp=>
   have e:Be k=64::(k.name++[59]):=bQ
   rw[V6,e]at hw
   rw[e]at hkl
   rw[Zi]at hl ⊢
   have hkf:=fun p (hp:p∈fs)=>Sj hT ht dc (Ci (hf p hp)).2
   have:=Zw P b _ [82] _ _ (fs.map fun p=>Dp p.2) w hw bI (.inr (.inr rfl)) (by
    intro g hg
    obtain⟨p,hp,rfl⟩:=av.1 hg
    exact(hkf p hp).2) aH (by rw[Z7];rw[af]at hl;omega) fun i hi hi2 b W hW hl3=>(by
    have hi3:i<fs.length:=by simpa using hi2
    have hm:=ac hi3
    rw[List.getElem_map]at hl3 ⊢
    rw[List.getElem_map,Jd ht (hf _ hm)]at hW
    exact ih _ _ (h _ hm) (hkf _ hm).1 b W hW hl3)
   rw[Z7]at this
   simpa using this
end
end Go.Proofs.YtgfmljfjgohdcaaGreatDoor
