/- Texts joined. Conditions: as each theorem names them. -/
import Derived.BigRegion
import Derived.BigQuiet
import Derived.Deep.QuietTactic
import Derived.Test.YtpjijpcemejlnaaGreatDoorN04
import Derived.Test.YtpjijpcemejlnaaGreatDoorN10
import Derived.Test.YtpjijpcemejlnaaGreatDoorN19
set_option maxRecDepth 100000
set_option maxHeartbeats 32000000
set_option linter.unusedVariables false
set_option linter.unusedSimpArgs false
namespace Go.Proofs.YtpjijpcemejlnaaGreatDoor
open Go.RowKit Go.Proofs.Tryz
section
open Go.RowKit Go.Sort
attribute [local go_sem] Qhn Qg5 Qgq Qe7 ByteArray.mk_append_mk
def Qhe(bo:Option (List Ty × Kd))(x:List UInt8)(w:World)(e:Ending)(w':World):Prop:=
 (∃p k1 k2 k3 v sl,e=.returned (.tuple #[.pointer p,.agg #[.string k1,.string k2,.string k3],Ml v sl,.bool (Sk bo x).isSome])/\En (fun c=>w.heap.size<=c) w' sl v.kids /\
  ∀y,Sk bo x=some y->v=y/\∃S k xs,bo=some (S,k)/\Ag xs=S/\k1=⟨k.signs.toArray⟩/\k2=⟨k.base.toArray⟩/\k3=⟨k.name.toArray⟩/\Sw w' (.pointer p) xs)/\Below w.heap.size w w'
theorem Rr{xs:List PT}{n:Cj}{t:Ty}(h:By (Ag xs) n=some t):∃x,Ed xs n=some x/\x.ty=t:=by
 rw[G7]at h
 cases hq:Ed xs n with
 |none=>rw[hq]at h;cases h
 |some x=>rw[hq]at h;injection h with h;exact⟨x,rfl,h⟩
theorem Qfa{xs:List PT}{d:Nat}{k:Kd}{v:Vl}(h:My (Ag xs) (d+1) k v):((Nu xs k).any fun x=>decide (x.ty.sort=82))=decide (v.what=82):=by
 have hn:∀{k:Kd},¬(k.signs=[]/\k.base=[64])->Nu xs k=none:=fun h=>if_neg h
 have hy:∀{k:Kd} {t:Ty},k.signs=[]->k.base=[64]->By (Ag xs) k.name=some t->((Nu xs k).any fun x=>decide (x.ty.sort=82))=decide (t.sort=82):=fun h1 h2 h3=>by
  obtain⟨x,hx,rfl⟩:=Rr h3
  unfold Nu
  rw[if_pos ⟨h1,h2⟩,hx]
  rfl
 cases h with
 |n hs hb h=>rw[hn (by rw[hb];simp)];rfl
 |t hs hb h=>rw[hn (by rw[hb];simp)];rfl
 |f hs hb=>rw[hn (by rw[hb];simp)];rfl
 |lst hs=>rw[hn (by rw[hs];simp)];rfl
 |non hs=>rw[hn (by rw[hs];simp)];rfl
 |som hs=>rw[hn (by rw[hs];simp)];rfl
 |enm hs hb ht h9=>rw[hy hs hb ht,h9];rfl
 |uni hs hb ht h5=>rw[hy hs hb ht,h5];rfl
 |rcd hs hb ht h2=>rw[hy hs hb ht,h2];rfl
theorem Y6{n:Nat}:∀{l:List (List UInt8)},(∀p∈l,p.length<=n)->Du l<=l.length*(n+1)
 |[],_=>by simp[Du]
 |p::l,h=>by
  rw[Fw,List.length_cons,Nat.succ_mul]
  have:=h p (by simp)
  have:=Y6 (l:=l) fun q hq=>h q (by simp[hq])
  omega
theorem Qd5(s d x:List UInt8)(w:World)(HG:Calls prog 42 #[.string ⟨s.toArray⟩,.string ⟨d.toArray⟩,.string ⟨x.toArray⟩] w (Qhe (C4 s d) x w)):
  Calls prog 29 #[.string ⟨s.toArray⟩,.string ⟨d.toArray⟩,.string ⟨x.toArray⟩] w (Qaz (vlB (C4 s d) x Pj) w):=by
 have HG:=Aa HG
 go_enter func29,ntmps29
 go_wp2_with fail
 refine HG.o.mono ?_
 rintro e w1 ⟨⟨p,k1,k2,k3,v,sl,rfl,hs1,hy⟩,hb1⟩
 obtain⟨A1,c1,rfl⟩:=hs1.form
 have Hb1:=Aa hb1
 cases hv:Sk (C4 s d) x with
 |none=>
  have HV:=Aa (Qa8 (f:=Pj) hv)
  rw[Option.isSome_none]
  unfold Ml
  clear hs1 hb1 hy hv HG
  go_wp2_with fail
  go_ret2
  refine⟨by rw[HV.o];rfl,?_⟩
  have h:=Hb1.o
  exact(h.alloc h.size _).alloc (by simp;have:=h.size;omega) _
 |some y=>
  obtain⟨rfl,S,k,xs,hbo,rfl,rfl,rfl,rfl,hsc⟩:=hy y hv
  obtain⟨S',k',e1,hok,hk,href,hkd,hvok,hpr,hxl⟩:=Tv hv
  rw[hbo]at e1
  injection e1 with e1
  injection e1 with e1 e2
  subst e1 e2
  have hS:=hok.1.1
  have HE:=Aa (show vlB (C4 s d) x Pj=Pj (Ag xs) k v by
   rw[hbo]
   have h:H8 (Ag xs) k x=some v:=by rw[hbo]at hv;exact hv
   simp[vlB,h])
  have HR:=Aa (fun W (hW:Below w1.heap.size w1 W)=>X7 (.pointer p) xs k W (hsc.below hW) (by have:=Ju hk;omega) (fun h=>by
   obtain⟨t,ht⟩:=Option.isSome_iff_exists.1 (href h)
   obtain⟨x,hx,_⟩:=Rr ht
   exact⟨x,hx⟩))
  rw[Qfa hvok]at HR
  rw[Option.isSome_some]
  have Hs1:=Aa hs1
  have hty:=hsc.tys
  unfold H4 at HR
  by_cases h82:v.what=82
  ·have HE2:=Aa (HE.o.trans (if_pos h82))
   rw[decide_eq_true h82]at HR
   have hrec:∃(t:Ty) (fs:List (Fd × Vl)),k.signs=[]/\k.base=[64]/\By (Ag xs) k.name=some t/\v.kids=fs.map Dm/\(∀p∈fs,Bc t.fields p.1.tag=some p.1)/\fs.Pairwise fun p q=>p.1.tag<q.1.tag:=by
    cases hvok with
    |n=>exact absurd h82 (by simp[Vl.what])
    |t=>exact absurd h82 (by simp[Vl.what])
    |f=>exact absurd h82 (by simp[Vl.what])
    |lst=>exact absurd h82 (by simp[Vl.what])
    |non=>exact absurd h82 (by simp[Vl.what])
    |som=>exact absurd h82 (by simp[Vl.what])
    |enm=>exact absurd h82 (by simp[Vl.what])
    |uni=>exact absurd h82 (by simp[Vl.what])
    |@rcd _ _ t fs hs hbs ht h2 hf h hn hp=>exact⟨t,fs,hs,hbs,ht,rfl,hf,hp⟩
   obtain⟨t,fs,hs,hbs,ht,hkids,hf,hp⟩:=hrec
   obtain⟨x,hx,hxt⟩:=Rr ht
   subst hxt
   have hix:=hty x (Fu hx).1
   have hfew:=Qbl hS ht hf hp
   have hnames:=Qb3 hS ht hf hp
   have hkl:v.kids.length=fs.length:=by rw[hkids,List.length_map]
   have hfk:∀y∈v.kids,∃q∈fs,y.tag=q.1.tag:=fun y hy=>by
    rw[hkids]at hy
    obtain⟨q,hq,rfl⟩:=List.mem_map.1 hy
    exact⟨q,hq,rfl⟩
   have hfn:∀y∈v.kids,y.tag<=1000000000/\(Di (Ag xs) k y.tag).length<=3/\∃f,Bc x.ty.fields y.tag=some f/\f.name=Di (Ag xs) k y.tag:=fun y hy=>by
    obtain⟨q,hq,e⟩:=hfk y hy
    have hfo:=(hS x.ty (B6 ht).1).2.2.1.1 q.1 (Cb (hf q hq)).2
    rw[e,Jv ht (hf q hq)]
    have:=hfo.2.1
    exact⟨by omega,(Dr.1 hfo.2.2.1).2.1,q.1,hf q hq,rfl⟩
   have hpw:v.kids.Pairwise fun a b=>Di (Ag xs) k a.tag≠Di (Ag xs) k b.tag:=by
    rw[hkids,List.pairwise_map]
    refine List.Pairwise.imp_of_mem (fun {p q} hp1 hq1 h e=>?_) hp
    have:=hnames _ (List.mem_map_of_mem hp1) _ (List.mem_map_of_mem hq1) e
    have h2:p.1.tag=q.1.tag:=congrArg Vl.tag this
    omega
   have HRO:=Aa (show Nu xs k=some x by unfold Nu;rw[if_pos ⟨hs,hbs⟩,hx])
   rw[HRO.o]at HR
   unfold M5 PT.ptr at HR
   have HB:=Aa (fun W (hW:Below w1.heap.size w1 W)=>Zn W x (hix.below hW) v _ (.slice A1 v.kids.length c1) (hs1.after hW) (fun g=>Di (Ag xs) k g) (fun y hy=>⟨(hfn y hy).1,(hfn y hy).2.2⟩) hpw (by omega))
   have HX:=Aa (fun y (hy:y∈v.kids)=>(by
    obtain⟨f,hf,hfe⟩:=(hfn y hy).2.2
    obtain⟨b,o,h1,h2,h3⟩:=Vs w1 x hix y.tag (hfn y hy).1 f hf
    refine⟨b,o,h1,?_,fun W hW=>(h3 W hW).mono fun e w' h=>⟨h.1,by rw[<-h.2];exact At _ _⟩⟩
    have:=Ac h2 1 rfl
    rw[hfe]at this
    exact this:∃b o,b<w1.heap.size/\w1.cell? ⟨b,o+1,none⟩=some (.string ⟨(Di (Ag xs) k y.tag).toArray⟩)/\∀W,Below w1.heap.size w1 W->Calls prog 62 #[.pointer (some ⟨x.blk,0,none⟩),.int .i64 y.tag] W fun e w'=>e=.returned (.pointer (some ⟨b,o,none⟩))/\Below W.heap.size W w'))
   have HN:=Aa (fun y (hy:y∈v.kids)=>(hfn y hy).2.1)
   have HT:=Aa (show Qbi (Ag xs) k v=Ap 44 ((Fc (fun y=>Di (Ag xs) k y.tag) v.kids).map fun y=>Di (Ag xs) k y.tag)from rfl)
   have HP:=Aa (Gp (fun y:Vl=>Di (Ag xs) k y.tag) v.kids)
   have hk8:v.kids.length<=8:=by omega
   unfold PT.ptr at HB
   clear hs1 hb1 hy hv HG hbo hok hk href hkd hvok hpr hxl hS HE hsc hty h82 hs hbs ht hkids hf hp hx hix hfew hnames hkl hfk hfn hpw HRO
   generalize hnm:(fun g=>Di (Ag xs) k g)=nm at *
   have hnm':∀g,Di (Ag xs) k g=nm g:=fun g=>by rw[<-hnm]
   simp only[hnm']at HB HX HN HT HP
   clear hnm hnm'
   unfold Ml at HB ⊢
   go_wp2_with fail
   generalize hwg:World.alloc (World.alloc w1 _) _=w2
   have hb2:Below w1.heap.size w1 w2:=by rw[<-hwg];exact((At _ _).alloc (Ao _) _).alloc (by simp) _
   have c0:w2.cell? ⟨w1.heap.size+1,0,none⟩=some (.int .u8 (v.what.toNat:Int)):=by rw[<-hwg];simp[go_sem]
   have c1':w2.cell? ⟨w1.heap.size+1,1,none⟩=some (.string ⟨v.text.toArray⟩):=by rw[<-hwg];simp[go_sem]
   have c2:w2.cell? ⟨w1.heap.size+1,2,none⟩=some (.int .i64 (v.tag:Int)):=by rw[<-hwg];simp[go_sem]
   have c3:w2.cell? ⟨w1.heap.size+1,3,none⟩=some (.slice A1 v.kids.length c1):=by rw[<-hwg];simp[go_sem]
   have l2:w1.heap.size+1<w2.heap.size:=by rw[<-hwg];simp
   have Hb2:=Aa hb2
   clear hwg hb2
   refine(HR.o _ Hb2.o).mono ?_
   rintro e w3 ⟨rfl,hb3⟩
   have Hb3:=Aa (Hb2.o.trans (hb3.mono Hb2.o.size))
   replace c0:=(hb3.cell (p:=⟨w1.heap.size+1,0,none⟩) l2).trans c0
   replace c1':=(hb3.cell (p:=⟨w1.heap.size+1,1,none⟩) l2).trans c1'
   replace c2:=(hb3.cell (p:=⟨w1.heap.size+1,2,none⟩) l2).trans c2
   replace c3:=(hb3.cell (p:=⟨w1.heap.size+1,3,none⟩) l2).trans c3
   have l3:w1.heap.size+1<w3.heap.size:=Nat.lt_of_lt_of_le l2 hb3.size
   clear hb3 l2 HR
   go_wp2_with fail
   refine(HB.o _ Hb3.o).mono ?_
   rintro e w4 ⟨sl',rfl,hiv,hb4⟩
   have Hb4:=Aa (Hb3.o.trans (hb4.mono Hb3.o.size))
   obtain⟨A4,c4,ys,rfl,hk4,hl4,hr4,_,hs4⟩:=hiv
   have hyl:ys.length<=8:=by
    have:=HP.o.length_eq
    rw[hk4]at this
    simp[Ay]at this
    omega
   have Hr4:=Aa hr4
   have Hs4:=Aa hs4
   have Hm4:=Aa (fun z (hz:z∈ys)=>HP.o.mem_iff.1 (by rw[hk4];exact List.mem_map_of_mem hz):∀z∈ys,z.1∈v.kids)
   have HT2:=Aa (show Qbi (Ag xs) k v=Ap 44 (ys.map fun y=>nm y.1.tag)by rw[HT.o,hk4,Ay,List.map_map];rfl)
   clear hk4 hr4 hs4 hb4 hl4 HB HP HT c0 c1' c2 c3 l3
   go_wp2_with fail
   go_loopw [39,13] (fun i u wr=>∃(m:Nat) (A3:Option Addr) (n3 q3:Nat),i=.int .i64 m/\u=.slice A3 n3 q3/\m<=ys.length/\Hid (wr.ownsRow w4.heap.size 9 1 (.slice A3 n3 q3) m (Af ((ys.take m).map fun y=>nm y.1.tag)))/\Hid (Below w4.heap.size w4 wr)) (fun i _ _=>ys.length - (intOf i).toNat)
   case atStart=>exact⟨0,none,0,0,rfl,rfl,Nat.zero_le _,World.ownsRow_nil _ _ _ _,At _ _⟩
   case round=>
    obtain⟨m,A3,n3,q3,rfl,rfl,hm,Hown,Hbr⟩:=hrel
    have m1:(0:Int)<=(m:Int):=by omega
    by_cases hlt:m<ys.length
    ·have m2:(m:Int)<(ys.length:Int):=by omega
     obtain⟨b,off,rfl,hb,d0,d1,d2,d3⟩:=En.at_ (Hr4.o.below Hbr.o) hlt
     have Hts:=Aa (Bn ys m hlt)
     have hsz:w4.heap.size<=wr.heap.size:=Hbr.o.size
     have hbn:¬(b=wr.heap.size):=by omega
     obtain⟨A7,c7,e7⟩:=(Hs4.o _ (List.getElem_mem hlt)).form
     obtain⟨b6,o6,hb6,hc6,hX6⟩:=HX.o _ (Hm4.o _ (List.getElem_mem hlt))
     have Hbw:=Aa (Hb4.o.trans (Hbr.o.mono Hb4.o.size))
     replace hc6:=(Hbw.o.cell (p:=⟨b6,o6+1,none⟩) hb6).trans hc6
     have hl6:b6<wr.heap.size:=Nat.lt_of_lt_of_le hb6 Hbw.o.size
     have HX6:=Aa hX6
     rw[e7]at d3
     clear hX6 e7 hb6
     generalize ys[m]=z at *
     obtain⟨y,ysl⟩:=z
     simp only at d0 d1 d2 d3 hc6 HX6
     go_wp2_with fail
     refine(HX6.o _ (Hbw.o.trans (((At _ wr).alloc (Ao _) _).mono Hbw.o.size))).mono ?_
     rintro e w5 ⟨rfl,hb5⟩
     have Hb5:=Aa (((At _ wr).alloc (Ao _) _).trans (hb5.mono (by simp)))
     replace hc6:=(Hb5.o.cell (p:=⟨b6,o6+1,none⟩) hl6).trans hc6
     have hl5:b6<w5.heap.size:=Nat.lt_of_lt_of_le hl6 Hb5.o.size
     have Ho5:=Aa (Be Hown.o Hb5.o)
     have hs5:w4.heap.size<=w5.heap.size:=Nat.le_trans hsz Hb5.o.size
     clear hb5 d0 d1 d2 d3
     go_wp2_with (at_builtin;refine J7 _ rfl _ _ 31 rfl w4.heap.size 9 (.string ⟨#[]⟩) 16 underlying31 Dt rfl w5 (.string ⟨(nm y.tag).toArray⟩) rfl rfl (.slice A3 n3 q3) m (Af ((ys.take m).map fun y=>nm y.1.tag)) rfl rfl Ho5.o (by unfold maxLen;omega) (by omega) hs5 ?_;intro v' w6 hown6 hb6;obtain⟨A5,n5,c5,rfl⟩:=Md hown6;have Ho:=Aa hown6;have Hb6:=Aa hb6;clear hown6 hb6)
     go_roundw
     case rel=>exact⟨m+1,A5,n5,c5,by go_num,rfl,by omega,(by rw[Hts.o,List.map_append,Ke];exact Ho.o),(Hbr.o.trans (Hb5.o.mono hsz)).trans Hb6.o⟩
     case measure=>simp[intOf];omega
    ·obtain rfl:m=ys.length:=by omega
     have hown6:=Hown.o
     rw[List.take_length]at hown6
     obtain⟨A6,c6,e6,hr6⟩:=Bl.own hown6
     have hcap:=Qbo hown6
     injection e6 with e7 e8 e9
     subst e7 e8 e9
     have hpl:(ys.map fun y=>nm y.1.tag).length=ys.length:=by simp
     have HJ:=Aa (by
      have h3:=Y6 (n:=3) (l:=ys.map fun y=>nm y.1.tag) fun p hp=>by
       obtain⟨z,hz,rfl⟩:=List.mem_map.1 hp
       exact HN.o _ (Hm4.o z hz)
      have:=Qd1 44 A3 q3 (ys.map fun y=>nm y.1.tag) wr (by rw[hpl];exact hr6) (by rw[hpl];omega) (by rw[hpl]at h3;omega)
      rw[hpl,<-HT2.o]at this
      exact this:Calls prog 45 #[.slice A3 ys.length q3,.string ⟨#[44]⟩] wr fun e w'=>e=.returned (.string ⟨(Qbi (Ag xs) k v).toArray⟩)/\Below wr.heap.size wr w')
     have Hb6:=Aa (Hb1.o.trans ((Hb4.o.trans (Hbr.o.mono Hb4.o.size)).mono Hb1.o.size))
     clear hown6 hr6 hcap hpl Hown HX HN
     go_wp2_with fail
     refine HJ.o.mono ?_
     rintro e w7 ⟨rfl,hb7⟩
     have Hb7:=Aa (Hb6.o.trans (hb7.mono Hb6.o.size))
     clear hb7
     go_wp2_with fail
     go_ret2
     exact⟨by rw[HE2.o];rfl,Hb7.o⟩
  have HE2:=Aa (HE.o.trans (if_neg h82))
  rw[decide_eq_false h82]at HR
  unfold Ml
  generalize M5 (Nu xs k)=pr at *
  clear hs1 hb1 hy hv HG hbo hok hk href hkd hvok hpr hxl hS HE hsc hty h82 Hs1
  go_wp2_with fail
  generalize hwg:World.alloc (World.alloc w1 _) _=w2
  have Hb2:=Aa (show Below w1.heap.size w1 w2 by rw[<-hwg];exact((At _ _).alloc (Ao _) _).alloc (by simp) _)
  clear hwg
  refine(HR.o _ Hb2.o).mono ?_
  rintro e w3 ⟨rfl,hb3⟩
  have Hb3:=Aa (Hb1.o.trans ((Hb2.o.trans (hb3.mono Hb2.o.size)).mono Hb1.o.size))
  clear hb3
  go_wp2_with fail
  go_ret2
  exact⟨by rw[HE2.o];rfl,Hb3.o⟩
end
section
attribute [local go_sem] Qhn Qg5 Qgq Qe7 ByteArray.mk_append_mk
def Qed:List UInt8:=[48,49,50,51,52,53,54,55,56,57]
theorem Qdv(c:UInt8):Qed.contains c=Az c:=by
 have:=Ng (p:=fun c=>Qed.contains c == Az c) dP c;simpa using this
theorem Qel(s:List UInt8):s.dropWhile (Qed.contains ·)=s.dropWhile Az:=by congr 1;funext c;exact Qdv c
theorem Qe1(s:List UInt8):s.dropWhile (Qal.contains ·)=s.dropWhile Bv:=by congr 1;funext c;exact Yd c
theorem Pu(p:UInt8->Bool)(s:List UInt8):s.take (s.length - (s.dropWhile p).length)=s.takeWhile p/\(s.dropWhile p).length<=s.length:=by
 have e:s.takeWhile p++s.dropWhile p=s:=List.takeWhile_append_dropWhile;have hl:(s.takeWhile p).length+(s.dropWhile p).length=s.length:=by rw[<-ah,e]
 refine⟨?_,by omega⟩;conv=>lhs;arg 2;rw[<-e]
 rw[show s.length - (s.dropWhile p).length=(s.takeWhile p).length by omega,List.take_left]
def Ga(t:List UInt8):Nat:=(Cc (t.takeWhile Az)).getD 0
def Fg(m:Nat)(t:List UInt8):Bool:=match Cc (t.takeWhile Az)with|some n=>decide (n<=m)|none=>false
theorem Qfx(m:Nat)(t:List UInt8):pnV (t.takeWhile Az) m=.tuple #[.int .i64 (Ga t:Int),.bool (Fg m t)]:=by
 unfold pnV Ga Fg;cases Cc (t.takeWhile Az)<;>rfl
theorem E7.grow{w w':World}{b:Nat}{p:Value}{t:List UInt8}{bad:Bool}(h:E7 w b p t bad)(hb:Below w w w'):E7 w' b p t bad:=h.far hb h.1
theorem M2(b m:Nat)(p:Value)(t:List UInt8)(bad:Bool)(w:World)(h:E7 w b p t bad)(hl:t.length<=4000000)(hm:m<=999999):
  Calls prog 143 #[b,.int .i64 m] w fun e w'=>
   e=.returned (.int .i64 (Ga t:Int))/\Cw w b p (t.dropWhile Az) (bad || !Fg m t) w':=by
 have Htl:=Aa (fun W=>Mh t Qed W aJ aJ);simp only[Qel]at Htl;have Hpn:=Aa (fun W=>Fl (t.takeWhile Az) m W (by have:=(Pu Az t).1;have h2:=List.length_take_le (t.length - (t.dropWhile Az).length) t;rw[this]at h2;omega) hm);rw[Qfx]at Hpn;obtain⟨htk,hdl⟩:=Pu Az t;have Htk:=Aa htk;unfold Qed at Htl;have HS:=Aa h;have kw:IntKind.i64.wrap ((t.length:Int) - ((t.dropWhile Az).length:Int))=(t.length:Int) - ((t.dropWhile Az).length:Int):=IntWalk.i64_in _ aG;have k1:(0:Int)<=(t.length:Int) - ((t.dropWhile Az).length:Int):=aG;have k2:(t.length:Int) - ((t.dropWhile Az).length:Int)<=(t.length:Int):=aG;have k3:((t.length:Int) - ((t.dropWhile Az).length:Int)).toNat=t.length - (t.dropWhile Az).length:=aG;generalize Ga t=n at *;generalize Fg m t=ok at *;generalize t.takeWhile Az=a at *;generalize t.dropWhile Az=r at *;obtain⟨h0,h1,h2,h3,h4⟩:=h;clear htk h1;go_enter func143,ntmps143;go_wp2_with fail;refine(Htl.o _).mono ?_;rintro e w1 ⟨rfl,hb1⟩;have HS1:=Aa (HS.o.grow hb1);have Hb1:=Aa hb1;have C1:=Aa ((hb1.cell (p:=⟨b,1,none⟩) h0).trans h3);have hz1:b<w1.heap.size:=by have:=hb1.size;omega
 clear hb1 HS h2 h3 h4;go_wp2_with fail;refine N7 [14,15,16,17,18,19,20,21,22,23,24,25,26,27,28,13,29,30,6,7]
  (fun ix v W=>match ix with|0=>v=b|1=>v=b|2=>v=(b,1)|3=>v=t|4=>v=b|5=>v=b|6=>v=(b,1)|7=>v=t|8=>v=(t.length:Int)|9=>v=r|10=>v=(r.length:Int)|11=>v=.int .i64 ((t.length:Int) - (r.length:Int))|12=>v=a|13=>v=(m:Int)|14=>v=.tuple #[(n:Int),.bool ok]|15=>v=.tuple #[(n:Int),.bool ok]|16=>v=(n:Int)|17=>v=.bool ok|18=>v=(n:Int)|19=>v=.bool ok|_=>True)
  (fun L U W=>∃k,W=w1.drewN k) (⟨1,rfl⟩) ?_ ?_
 ·repeat (first|exact Aq.nil|(refine Aq.cons ?_ ?_;rotate_left))
  all_goals
   rintro L U W hL hpre HR Hdep K hK;obtain⟨k,hk⟩:=HR.o;have c1:W.cell? (b,1)=t:=by rw[hk];exact C1.o
   clear hk;first|(simp[Region.binds]at hpre;done)|simp[Region.binds]at hpre|clear hpre
  iterate 11
   ·exact eW
  ·exact gD
  ·exact gp
  ·exact eW
  ·go_simp;refine(Hpn.o W).mono ?_;rintro e w' ⟨rfl,rfl⟩;exact kF hK HR.o
  iterate 5
   ·exact eW
 rintro L U W hL hφ hR;have e18:U 18=(n:Int):=hφ 18 aJ;have e19:U 19=.bool ok:=hφ 19 aJ;simp only[e18,e19];clear hφ;obtain⟨k,rfl⟩:=hR;clear hL;have HS2:=Aa (HS1.o.drew k);have Hb2:=Aa (below_drewN Hb1.o k);obtain⟨q0,q1,_,_,_⟩:=HS2.o;have hf1:=q1.live 1;have hf2:=q1.live 2;clear q1;have j2:=HS2.o.2.2.2.1;have j3:=HS2.o.2.2.2.2;cases ok with
 |true=>
  go_wp2_with fail;go_ret;refine⟨rfl,by simpa using HS2.o.setText r,(Cm Hb2.o _).trans (A0 _ _ _ _)⟩
 |false=>
  go_wp2_with fail;go_ret;refine⟨rfl,by simpa using(HS2.o.setBad true).setText r,((Cm Hb2.o _).trans (A0 _ _ _ _)).trans (A0 _ _ _ _)⟩
def Qgw(t:List UInt8)(bad:Bool)(b:Nat)(p:Value)(w:World)(e:Ending)(w':World):Prop:=
 ∃(x t':List UInt8) (bad':Bool),e=.returned x/\Cw w b p t' bad' w'/\(if bad then none else Ki t)=(if bad' then none else some (x,t'))/\x.length+t'.length<=t.length
theorem Ni{c:UInt8}{t:List UInt8}:((Al c t).getD t).length<=t.length:=by
 cases h:Al c t with
 |none=>exact Ao _
 |some r=>rw[Bx]at h;subst h;simp
theorem Bw(c:UInt8)(t:List UInt8)(bad:Bool):Av [c] t bad=if bad then none else Al c t:=by unfold Av;rw[Qbw]
theorem Ya(t t1 t3:List UInt8)(bad b1 b2 b3:Bool)(h1:t1=(Av [39] t bad).getD t)(hb1:b1=(Av [39] t bad).isNone)(h3:t3=(Av [39] (t1.dropWhile Bv) b1).getD (t1.dropWhile Bv))(hb2:b2=(Av [39] (t1.dropWhile Bv) b1).isNone)
  (hb3:b3=(b2 || decide (12<(t1.takeWhile Bv).length))):
  (if bad then none else Ki t)=(if b3 then none else some (t1.takeWhile Bv,t3))/\(t1.takeWhile Bv).length+t3.length<=t.length:=by
 have e:(t1.takeWhile Bv).length+(t1.dropWhile Bv).length=t1.length:=by rw[<-ah,List.takeWhile_append_dropWhile]
 rw[Bw]at h1 hb1 h3 hb2;subst h1 hb1 h3 hb2 hb3;constructor
 ·cases bad with
  |true=>simp
  |false=>
   unfold Ki;simp only[an,if_false];cases Al 39 t with
   |none=>simp
   |some r=>
    simp only[Option.getD_some,Option.isNone_some,an,if_false];cases Al 39 (r.dropWhile Bv)with
    |none=>simp
    |some q=>
     simp only[Option.getD_some,Option.isNone_some,Bool.false_or,decide_eq_true_eq];by_cases h:(r.takeWhile Bv).length<=12
     ·rw[if_pos h,if_neg aG]
     rw[if_neg h,if_pos aG]
 have k1:((if bad=true then none else Al 39 t).getD t).length<=t.length:=by cases bad;exact Ni;exact Ao _
 generalize (if bad=true then none else Al 39 t)=o at *;have k2:((if o.isNone=true then none else Al 39 ((o.getD t).dropWhile Bv)).getD ((o.getD t).dropWhile Bv)).length<=((o.getD t).dropWhile Bv).length:=by cases o.isNone;exact Ni;exact Ao _
 omega
theorem Qai(b:Nat)(p:Value)(t:List UInt8)(bad:Bool)(w:World)(h:E7 w b p t bad)(hl:t.length<=4000000):
  Calls prog 144 #[b] w (Qgw t bad b p w):=by
 have Hq:=Aa (Ya t);have Hw1:=Aa (fun W (h:E7 W b p t bad)=>Cv b p t [39] bad W h hl);have hk1:((Av [39] t bad).getD t).length<=t.length:=ev;have HS:=Aa h;clear h;obtain⟨t1,ht1⟩:∃t1,t1=(Av [39] t bad).getD t:=⟨_,rfl⟩
 obtain⟨b1,hb1⟩:∃b1,b1=(Av [39] t bad).isNone:=⟨_,rfl⟩
 rw[<-ht1]at hk1;have Hq:=Aa (fun t3 b2 b3=>Hq.o t1 t3 bad b1 b2 b3 ht1 hb1);rw[<-ht1,<-hb1]at Hw1;clear ht1 hb1;have Htl:=Aa (fun W=>Mh t1 Qal W aJ aJ);simp only[Qe1]at Htl;unfold Qal at Htl;obtain⟨htk,hdl⟩:=Pu Bv t1;have Htk:=Aa htk;have Hw2:=Aa (fun W (h:E7 W b p (t1.dropWhile Bv) b1)=>Cv b p (t1.dropWhile Bv) [39] b1 W h aG);clear htk;go_enter func144,ntmps144;go_wp2_with fail;refine(Hw1.o _ HS.o).mono ?_;rintro e w1 ⟨rfl,hs1,hg1⟩;have HS1:=Aa hs1;have Hg1:=Aa hg1;obtain⟨z1,_,_,c1,_⟩:=hs1;clear hg1;go_wp2_with fail;refine(Htl.o _).mono ?_;rintro e w2 ⟨rfl,hb2⟩;have HS2:=Aa (HS1.o.grow hb2);have Hg2:=Aa (Hg1.o.trans (Cm hb2 _));have C2:=Aa HS2.o.2.2.2.1;have hz2:b<w2.heap.size:=HS2.o.1;clear hb2 c1 z1;have kw:IntKind.i64.wrap ((t1.length:Int) - ((t1.dropWhile Bv).length:Int))=(t1.length:Int) - ((t1.dropWhile Bv).length:Int):=IntWalk.i64_in _ aG;have k1:(0:Int)<=(t1.length:Int) - ((t1.dropWhile Bv).length:Int):=aG;have k2:(t1.length:Int) - ((t1.dropWhile Bv).length:Int)<=(t1.length:Int):=aG;have k3:((t1.length:Int) - ((t1.dropWhile Bv).length:Int)).toNat=t1.length - (t1.dropWhile Bv).length:=aG;obtain⟨a,ha⟩:∃a,a=t1.takeWhile Bv:=⟨_,rfl⟩
 obtain⟨r,hr⟩:∃r,r=t1.dropWhile Bv:=⟨_,rfl⟩
 rw[<-ha]at Htk;rw[<-hr]at Htk Hw2 hdl kw k1 k2 k3;simp only[<-hr];have Hq:=Aa (fun t3 b2 b3=>Hq.o t3 b2 b3);simp only[<-hr,<-ha]at Hq;clear ha hr;go_wp2_with fail;refine N7 [12,13,14,15,16,17,18,19,20,21,22,23,24,4]
  (fun ix v W=>match ix with|0=>v=b|1=>v=b|2=>v=(b,1)|3=>v=.string ⟨t1.toArray⟩|4=>v=b|5=>v=b|6=>v=(b,1)|7=>v=.string ⟨t1.toArray⟩|8=>v=(t1.length:Int)|9=>v=.string ⟨r.toArray⟩|10=>v=(r.length:Int)|11=>v=.int .i64 ((t1.length:Int) - (r.length:Int))|12=>v=.string ⟨a.toArray⟩|13=>v=.string ⟨a.toArray⟩|_=>True)
  (fun L U W=>∃k,W=w2.drewN k) (⟨1,rfl⟩) ?_ ?_
 ·repeat (first|exact Aq.nil|(refine Aq.cons ?_ ?_;rotate_left))
  all_goals
   rintro L U W hL hpre HR Hdep K hK;obtain⟨k,hk⟩:=HR.o;have c1:W.cell? (b,1)=some (.string ⟨t1.toArray⟩):=by rw[hk];exact C2.o
   clear hk;first|(simp[Region.binds]at hpre;done)|simp[Region.binds]at hpre|clear hpre
  iterate 11
   ·exact eW
  ·exact gD
  ·exact gp
  ·exact eW
 rintro L U W hL hφ hR;have e13:U 13=.string ⟨a.toArray⟩:=hφ 13 aJ;simp only[e13];clear hφ;obtain⟨k,rfl⟩:=hR;clear hL;have HS3:=Aa (HS2.o.drew k);have Hg3:=Aa (Hg2.o.trans (Cm (below_drewN (At _ _) k) _));have hf1:=HS3.o.2.1.live 1;have q0:=HS3.o.1;have j2:=HS3.o.2.2.2.1;have j3:=HS3.o.2.2.2.2;go_wp2_with fail;refine(Hw2.o _ (HS3.o.setText r)).mono ?_;rintro e w4 ⟨rfl,hs4,hg4⟩;have HS4:=Aa hs4;have Hg4:=Aa ((Hg3.o.trans (A0 _ _ _ _)).trans hg4);clear hg4 hs4 j2 j3 hf1 q0;have Hq4:=Aa (fun b3=>Hq.o _ _ b3 rfl rfl);generalize (Av [39] r b1).getD r=t3 at *;generalize (Av [39] r b1).isNone=b2 at *;have hf2:=HS4.o.2.1.live 2;have q0:=HS4.o.1;have k3:=HS4.o.2.2.2.2;by_cases hlen:a.length<=12
 ·have t1:decide ((12:Int)<(a.length:Int))=false:=aN;go_wp2_with fail;go_ret;obtain⟨h1,h2⟩:=Hq4.o b2 aN;exact⟨a,t3,b2,rfl,⟨HS4.o,Hg4.o⟩,h1,h2⟩
 have t1:decide ((12:Int)<(a.length:Int))=true:=aN;go_wp2_with fail;go_ret;obtain⟨h1,h2⟩:=Hq4.o true aN;exact⟨a,t3,true,rfl,⟨HS4.o.setBad true,Hg4.o.trans (A0 _ _ _ _)⟩,h1,h2⟩
section
variable {P:Program}
theorem Ax{fn:Func}{p:Tmp}{ty:TypeId}(h:fn.results=#[.cell p ty])(tmps:Array Value)(w:World)(b:Nat)(cs:List Value)(d:TypeDesc)
  (hp:tmps.getD p undef=b) (hc:w.rangeAt b 0 cs) (hu:P.underlying ty=some d) (hd:d.isRow=true) (hi:(P.info? ty).map (·.size)=some cs.length):
  (results fn tmps).run P w=.ok (.agg cs.toArray) w:=by
 have hp':tmps[p]?.getD undef=b:=dT;simp[results,h,hp',asAddr,run_loadVar_mid w b 0 ty cs d hc hu hd hi]
end
theorem V7{w W:World}{row:Option Nat}{B o:Nat}(h:w.grownBy W row)(hB:w.heap.size<=B):∀(cs:List Value) (o:Nat),w.grownBy (W.setCells B o cs) row:=by
 intro cs;induction cs generalizing W with
 |nil=>intro o;exact h
 |cons v cs ih=>
  intro o;refine ih (W:=W.setCell ⟨B,o,none⟩ v) ⟨h.os,h.tape,h.output,by simpa using h.size,fun k hk hne=>?_⟩ (o+1);rw[Go.heap_setCell_other _ _ _ _ (show k≠B by omega)];exact h.block k hk hne
theorem Cw.trans{w w1 w2:World}{b:Nat}{p:Value}{t t':List UInt8}{x y:Bool}(h1:Cw w b p t x w1)(h2:Cw w1 b p t' y w2):Cw w b p t' y w2:=⟨h2.1,h1.2.trans h2.2⟩
theorem Cw.pre{w w1 w2:World}{b:Nat}{p:Value}{t:List UInt8}{x:Bool}(hb:Below w w w1)(h:Cw w1 b p t x w2):Cw w b p t x w2:=⟨h.1,(Cm hb _).trans h.2⟩
theorem Cw.post{w w1 w2:World}{b:Nat}{p:Value}{t:List UInt8}{x:Bool}(h:Cw w b p t x w1)(hb:Below w1 w1 w2):Cw w b p t x w2:=⟨h.1.grow hb,h.2.trans (Cm hb _)⟩
theorem Cw.set{w W:World}{b B:Nat}{p:Value}{t:List UInt8}{x:Bool}(h:Cw w b p t x W)(hB:w.heap.size<=B)(hne:B≠b)(cs:List Value):Cw w b p t x (W.setCells B 0 cs):=by
 obtain⟨⟨h0,h1,h2,h3,h4⟩,hg⟩:=h;have hk:(W.setCells B 0 cs).heap[b]?=W.heap[b]?:=(G9 B cs 0 W).block b h0 (by simpa using hne.symm);have hc:∀o,(W.setCells B 0 cs).cell? ⟨b,o,none⟩=W.cell? ⟨b,o,none⟩:=fun o=>World.cell?_of_block (a:=⟨b,o,none⟩) hk;obtain⟨c1,t1,e1⟩:=h1;exact⟨⟨by rw[Cr];exact h0,⟨c1,t1,hk.trans e1⟩,(hc 0).trans h2,(hc 1).trans h3,(hc 2).trans h4⟩,V7 (o:=0) hg hB cs 0⟩
theorem Cw.env{w0 w w1:World}{b:Nat}{p:Value}{t:List UInt8}{x:Bool}(h:Cw w b p t x w1)(h0:Below w0 w0 w)(hb:w0.heap.size<=b):Below w0 w0 w1:=
 h0.grown h.2 h0.size fun k hk=>by injection hk with hk;omega
theorem En.set{P:Nat->Prop}{w:World}{v:Value}{ks:List Vl}(h:En P w v ks){B:Nat}(hB:¬P B)(cs:List Value):En P (w.setCells B 0 cs) v ks:=
 h.grown (G9 B cs 0 w) fun b hb e=>by injection e with e;subst e;exact hB hb
def Je(w:World)(b:Nat)(p:Value)(t:List UInt8)(N:Nat)(r:Option (Vl × List UInt8))(e:Ending)(w':World):Prop:=
 ∃(v:Vl) (sl:Value) (t':List UInt8),e=.returned (Ml v sl)/\En (fun b=>w.heap.size<=b) w' sl v.kids/\Cw w b p t' r.isNone w'/\(∀x,r=some x->v=x.1/\t'=x.2)/\Bd v/\t'.length<=t.length/\(Bh v).length+t'.length<=t.length+8*N
def Ev:Vl:=.mk 0 [] 0 []
theorem Ec{w:UInt8}{tx:List UInt8}{tg:Nat}(h1:tg<=1000000000)(h3:tx.length<=1000000):Bd (.mk w tx tg []):=.mk h1 ep h3 aK
theorem Vc(k:Kd)(w:World)(c:UInt8)(t:List UInt8)(hs:k.signs=c::t)(hl:t.length<=1000):
  Calls prog 101 #[H4 k] w fun e w'=>e=.returned (H4 k.part)/\Below w w w':=by
 have hp:k.part=⟨t,k.base,k.name⟩:=by unfold Kd.part;rw[hs];rfl
 rw[hp];unfold H4;rw[hs];clear hp hs;go_enter func101,ntmps101;go_wp2_with fail;refine aE (v:=.agg ([t,k.base,k.name]:List Value).toArray) ?_ rfl ?_
 ·refine Ax results101 _ _ (w.heap.size+1) _ _ rfl ?_ underlying62 rfl aM;intro j v hv;match j,hv with
  |0,hv=>simp at hv;subst hv;simp[go_sem]
  |1,hv=>simp at hv;subst hv;simp[go_sem]
  |2,hv=>simp at hv;subst hv;simp[go_sem]
  |n+3,hv=>simp at hv
 exact⟨rfl,((At _ _).alloc (Ao _) _).alloc aK _⟩
theorem Jl(c:UInt8)(s:List UInt8):(Co c s).1.length<=s.length/\(Co c s).2.1.length<=s.length:=by
 rcases Eg c s with⟨_,h⟩|⟨p,t,rfl,_,h⟩
 ·rw[h];simp
 rw[h];simp;omega
def Ka(st:UInt8)(ps:List (List UInt8))(vl:List UInt8)(td:Bool):Option Fd:=
 if st=69 then
  match H6 ps with
  |some (n,b)=>if td=true then none else some ⟨n,b,Kd.nil,vl⟩
  |none=>none
 else
  match Jx ps with
  |some (n,b,c)=>(match Cd c with
   |some k=>if td=true/\¬(st=82/\k.signs=[]/\Bq k.base vl=true)then none else some ⟨n,b,k,vl⟩
   |none=>none)
  |none=>none
theorem Tp(st:UInt8)(s:List UInt8):Fr st s=Ka st (Ae 58 (Co 61 s).1) (Co 61 s).2.1 (Co 61 s).2.2:=rfl
theorem Se{st:UInt8}{ps:List (List UInt8)}{vl:List UInt8}{td:Bool}(h:ps.length≠if st=69 then 2 else 3):Ka st ps vl td=none:=by
 unfold Ka;by_cases e:st=69
 ·rw[if_pos e]at h ⊢;match ps,h with
  |[],_=>rfl
  |[_],_=>rfl
  |[_,_],h=>exact absurd rfl h
  |_::_::_::_,_=>rfl
 rw[if_neg e]at h ⊢;match ps,h with
 |[],_=>rfl
 |[_],_=>rfl
 |[_,_],_=>rfl
 |[_,_,_],h=>exact absurd rfl h
 |_::_::_::_::_,_=>rfl
def Kx(a b:List UInt8)(n:Nat):Prop:=Cc a=some n/\1<=n/\n<=200/\As b=true
theorem Ql{st:UInt8}{a b:List UInt8}{r:List (List UInt8)}{vl:List UInt8}{td:Bool}(h:∀n,¬Kx a b n):Ka st (a::b::r) vl td=none:=by
 have h2:∀c,H6 (a::b::c)=none:=by
  intro c;match c with
  |[]=>
   cases hd:Cc a with
   |none=>simp only[H6,hd]
   |some n=>simp only[H6,hd];exact if_neg fun(e:1<=n/\n<=200/\As b=true)=>h n ⟨hd,e.1,e.2.1,e.2.2⟩
  |_::_=>rfl
 have h3:∀c,Jx (a::b::c)=none:=by
  intro c;match c with
  |[]=>rfl
  |[x]=>
   cases hd:Cc a with
   |none=>simp only[Jx,hd]
   |some n=>simp only[Jx,hd];exact if_neg fun(e:1<=n/\n<=200/\As b=true)=>h n ⟨hd,e.1,e.2.1,e.2.2⟩
  |_::_::_=>rfl
 unfold Ka;rw[h2,h3];split<;>rfl
theorem Qer{a b:List UInt8}{vl:List UInt8}{td:Bool}{n:Nat}(h:Kx a b n):Ka 69 [a,b] vl td=if td=true then none else some ⟨n,b,Kd.nil,vl⟩:=by
 obtain⟨h1,h2,h3,h4⟩:=h;unfold Ka H6;simp[h1,h2,h3,h4]
theorem Qey{st:UInt8}{a b c:List UInt8}{vl:List UInt8}{td:Bool}{n:Nat}(hst:st≠69)(h:Kx a b n):Ka st [a,b,c] vl td=(match Cd c with
   |some k=>if td=true/\¬(st=82/\k.signs=[]/\Bq k.base vl=true)then none else some ⟨n,b,k,vl⟩
   |none=>none):=by
 obtain⟨h1,h2,h3,h4⟩:=h;unfold Ka Jx;simp[h1,h2,h3,h4,hst]
theorem Qa4{k:Kd}(h:V6 k):Qgg k.base:=by
 rcases h with⟨h,_⟩|⟨h|h|h,_⟩
 ·exact .inr (.inr (.inr h))
 ·exact .inl h
 ·exact .inr (.inl h)
 exact .inr (.inr (.inl h))
theorem Qgy{ps:List (List UInt8)}(h:ps.length=2):∃a b,ps=[a,b]:=by
 match ps,h with
 |[a,b],_=>exact⟨a,b,rfl⟩
theorem Qgp{ps:List (List UInt8)}(h:ps.length=3):∃a b c,ps=[a,b,c]:=by
 match ps,h with
 |[a,b,c],_=>exact⟨a,b,c,rfl⟩
theorem Qq{w:World}{b o n:Nat}(h:w.there b o n)(k:Nat):(w.drewN k).there b o n:=by
 induction k generalizing w with
 |zero=>exact h
 |succ k ih=>exact ih bg
theorem Qd2(st:UInt8)(hst:st=69)(s:List UInt8)(w:World)(hs:s.length<=4000000):
  Calls prog 166 #[s,.int .u8 (st.toNat:Int)] w (Dc (Fr st s) w):=by
 have HF:=Aa (Tp st s);have Hcut:=Aa (fun W=>Pi s 61 W aG);have hcl:=(Jl 61 s).1;have hvl:=(Jl 61 s).2;generalize Co 61 s=r at HF Hcut hcl hvl;obtain⟨hd,vl,td⟩:=r;simp only at hcl hvl HF;have Hsp:=Aa (fun W=>Qa hd 58 W aG);have hne:=Dn 58 hd;have Hpl:=Aa (Ai 58 hd);generalize Ae 58 hd=ps at HF Hsp hne Hpl;have e69:((st.toNat:Int) == 69)=true:=Bk hst;have n69:((st.toNat:Int) != 69)=false:=Jz hst;have Hst0:=Aa hst;clear hst;go_enter func166,ntmps166;go_wp2_with fail;refine(Hcut.o _).mono ?_;rintro e w1 ⟨rfl,k1,rfl⟩;unfold Zl;go_wp2_with fail;refine(Hsp.o _).mono ?_;rintro e w2 ⟨v,rfl,ho,hb⟩;obtain⟨g,c,rfl,hg1,hg2,hcells⟩:=Kn ho hne;have hzz:w.heap.size<w2.heap.size:=by have:=hb.size;simp at this;omega
 have HT:=@Aa (w2.there w 0 6) (Ar (Qq (Cq w [.int .i64 0,a8,a8,a8,a8,a8] 105) k1) aK hb);have Hb:=@Aa (Below w w w2) ((below_drewN ((At w.heap.size w).alloc (Ao _) _) k1).trans (hb.mono aK));have Hcells:=Aa hcells;clear hb ho hcells hne;by_cases hlen:ps.length=2
 ·obtain⟨a,b,rfl⟩:=Qgy hlen;have c0:=Hcells.o 0 aK;have c1:=Hcells.o 1 aK;simp at c0 c1;have la:a.length<=4000000:=by have:=Hpl.o a aK;omega
  have lb:b.length<=4000000:=by have:=Hpl.o b aK;omega
  clear Hpl Hcells hlen;have hpn:=fun W=>(show Calls prog 175 #[a,.int .i64 200] W fun e w'=>e=.returned (pnV a 200)/\W=w' from Fl a 200 W aG aJ)
  have Hhead:=@Aa (∀n,Kx a b n↔Cc a=some n/\1<=n/\n<=200/\As b=true) (fun n=>Iff.rfl);have Hno:=Aa (fun(h:∀n,¬Kx a b n)=>HF.o.trans (Ql h));generalize hda:Cc a=od at *;have Hda:=Aa hda;clear hda;cases od with
  |none=>
   have Hpn:=Aa (fun W=>(Pb (m:=200) Hda.o) ▸ hpn W);clear hpn;go_wp2_with fail;refine(Hpn.o _).mono ?_;rintro e w3 ⟨rfl,rfl⟩;go_wp2_with ((with_reducible refine Ad (op:=⟨none,.store 105 _ _,_,_,_,none⟩) rfl 105 _ _ rfl w 0 [.int .i64 0,a8,a8,a8,a8,a8] ?_ ?_ ?_ ?_ ?_ ?_);rfl;rfl;(first|exact aq HT.o _|exact HT.o);kernel_rfl;(simp[Value.oneCell']);intro w9 HS9)
   have HZ:=@Aa (w9.rangeAt w 0 [.int .i64 0,a8,a8,a8,a8,a8]) bc;refine aE (v:=.tuple #[.agg ([.int .i64 0,a8,a8,a8,a8,a8]:List Value).toArray,.bool false]) ?_ rfl ?_
   ·exact fe
   exact i9
  |some n=>
   have Hpn:=Aa (fun W=>(Rh (m:=200) Hda.o) ▸ hpn W);clear hpn;have hn9:n<=999999:=(Bt.1 Hda.o).1;rcases aF 200 n with h200|h200
   ·exact fj
   have Hdec:=Aa (show decide (n<=200)=true by simp;omega);rw[Hdec.o]at Hpn;rcases Nat.eq_zero_or_pos n with h0|h0
   ·exact fk
   have hlt1:decide ((n:Int)<1)=false:=dn;have Hname:=Aa (fun W=>Jt b W aG);generalize hnb:As b=nb at *;have Hnb:=Aa hnb;clear hnb;go_wp2_with fail;refine(Hpn.o _).mono ?_;rintro e w3 ⟨rfl,rfl⟩;go_wp2_with fail;refine(Hname.o _).mono ?_;rintro e w4 ⟨rfl,hb4⟩;have hz4:w2.heap.size<w4.heap.size:=eE;have HT4:=@Aa (w4.there w 0 6) (Ar (aq HT.o _) aN hb4);have HR4:=@Aa (w4.rangeAt w2 0 [(n:Int),b,a8,a8,a8,vl]) (Au (Cg w2 _ _) aK hb4);have HK4:=@Aa (w4.there w2 0 6) (Ar (Cq w2 [(n:Int),b,a8,a8,a8,vl] _) aK hb4);have Hb4:=@Aa (Below w w w4) ((Hb.o.alloc Hb.o.size _).trans (hb4.mono aN));clear hb4;cases nb with
   |false=>
    go_wp2_with ((with_reducible refine Ad (op:=⟨none,.store 105 _ _,_,_,_,none⟩) rfl 105 _ _ rfl w 0 [.int .i64 0,a8,a8,a8,a8,a8] ?_ ?_ ?_ ?_ ?_ ?_);rfl;rfl;(first|exact aq HT4.o _|exact HT4.o);kernel_rfl;(simp[Value.oneCell']);intro w9 HS9)
    have HZ:=@Aa (w9.rangeAt w 0 [.int .i64 0,a8,a8,a8,a8,a8]) bN;refine aE (v:=.tuple #[.agg ([.int .i64 0,a8,a8,a8,a8,a8]:List Value).toArray,.bool false]) ?_ rfl ?_
    ·exact fe
    exact ia
   |true=>
    have Hok:=@Aa (Kx a b n) ((Hhead.o n).2 ⟨rfl,h0,h200,rfl⟩);have HF2:=Aa (HF.o.trans (show Ka st [a,b] vl td=if td=true then none else some ⟨n,b,Kd.nil,vl⟩from by rw[Hst0.o];exact Qer Hok.o));clear Hno Hhead HF;have n82:((st.toNat:Int) != 82)=true:=M1 (c:=st) (d:=82) (by rw[Hst0.o];decide);cases td with
    |true=>
     go_wp2_with ((with_reducible refine Ad (op:=⟨none,.store 105 _ _,_,_,_,none⟩) rfl 105 _ _ rfl w 0 [.int .i64 0,a8,a8,a8,a8,a8] ?_ ?_ ?_ ?_ ?_ ?_);rfl;rfl;(first|exact aq HT4.o _|exact HT4.o);kernel_rfl;(simp[Value.oneCell']);intro w9 HS9)
     have HZ:=@Aa (w9.rangeAt w 0 [.int .i64 0,a8,a8,a8,a8,a8]) bN;refine aE (v:=.tuple #[.agg ([.int .i64 0,a8,a8,a8,a8,a8]:List Value).toArray,.bool false]) ?_ rfl ?_
     ·exact fe
     exact Dc.no (HF2.o.trans aK) rfl br
    |false=>
     go_wp2_with (first|((with_reducible refine Ad (op:=⟨none,.store 105 _ _,_,_,_,none⟩) rfl 105 _ _ rfl w 0 [(n:Int),b,a8,a8,a8,vl] ?_ ?_ ?_ ?_ ?_ ?_);rfl;rfl;(first|exact aq HT4.o _|exact HT4.o);kernel_rfl;(simp[Value.oneCell']);intro w9 HS9)|((with_reducible refine wpList_load_mid (op:=⟨_,.load 105 _,_,_,_,none⟩) rfl 105 _ rfl w2 0 ?_ [(n:Int),b,a8,a8,a8,vl] _ HR4.o underlying105 ?_ ?_ ?_);rfl;rfl;kernel_rfl))
     have HZ:=@Aa (w9.rangeAt w 0 [(n:Int),b,a8,a8,a8,vl]) bN;refine aE (v:=.tuple #[.agg ([(n:Int),b,a8,a8,a8,vl]:List Value).toArray,.bool true]) ?_ rfl ?_
     ·exact An results166 _ _ w.heap.size [(n:Int),b,a8,a8,a8,vl] _ _ rfl rfl HZ.o underlying105 rfl aM
     exact Dc.yes (HF2.o.trans (if_neg (fun h=>by cases h))) rfl br
 have Hno:=Aa (HF.o.trans (Se (vl:=vl) (td:=td) (st:=st) (ps:=ps) (by rw[if_pos Hst0.o];exact hlen)));have hl1:¬(ps.length:Int)=2:=aG;have hl2:((ps.length:Int) != 2)=true:=by rw[bne_iff_ne];exact hl1
 clear HF Hpl Hcells;go_wp2_with ((with_reducible refine Ad (op:=⟨none,.store 105 _ _,_,_,_,none⟩) rfl 105 _ _ rfl w 0 [.int .i64 0,a8,a8,a8,a8,a8] ?_ ?_ ?_ ?_ ?_ ?_);rfl;rfl;(first|exact aq HT.o _|exact HT.o);kernel_rfl;(simp[Value.oneCell']);intro w9 HS9)
 have HZ:=@Aa (w9.rangeAt w 0 [.int .i64 0,a8,a8,a8,a8,a8]) bc;refine aE (v:=.tuple #[.agg ([.int .i64 0,a8,a8,a8,a8,a8]:List Value).toArray,.bool false]) ?_ rfl ?_
 ·exact fe
 exact Dc.no Hno.o rfl aV
theorem Qe2(st:UInt8)(hst:st≠69)(s:List UInt8)(w:World)(hs:s.length<=4000000):
  Calls prog 166 #[s,.int .u8 (st.toNat:Int)] w (Dc (Fr st s) w):=by
 have HF:=Aa (Tp st s);have Hcut:=Aa (fun W=>Pi s 61 W aG);have hcl:=(Jl 61 s).1;have hvl:=(Jl 61 s).2;generalize Co 61 s=r at HF Hcut hcl hvl;obtain⟨hd,vl,td⟩:=r;simp only at hcl hvl HF;have Hsp:=Aa (fun W=>Qa hd 58 W aG);have hne:=Dn 58 hd;have Hpl:=Aa (Ai 58 hd);generalize Ae 58 hd=ps at HF Hsp hne Hpl;have e69:((st.toNat:Int) == 69)=false:=Am hst;have n69:((st.toNat:Int) != 69)=true:=M1 hst;have Hst0:=Aa hst;clear hst;go_enter func166,ntmps166;go_wp2_with fail;refine(Hcut.o _).mono ?_;rintro e w1 ⟨rfl,k1,rfl⟩;unfold Zl;go_wp2_with fail;refine(Hsp.o _).mono ?_;rintro e w2 ⟨v,rfl,ho,hb⟩;obtain⟨g,c,rfl,hg1,hg2,hcells⟩:=Kn ho hne;have hzz:w.heap.size<w2.heap.size:=by have:=hb.size;simp at this;omega
 have HT:=@Aa (w2.there w 0 6) (Ar (Qq (Cq w [.int .i64 0,a8,a8,a8,a8,a8] 105) k1) aK hb);have Hb:=@Aa (Below w w w2) ((below_drewN ((At w.heap.size w).alloc (Ao _) _) k1).trans (hb.mono aK));have Hcells:=Aa hcells;clear hb ho hcells hne;by_cases hlen:ps.length=3
 ·obtain⟨a,b,d,rfl⟩:=Qgp hlen;have c0:=Hcells.o 0 aK;have c1:=Hcells.o 1 aK;have c2:=Hcells.o 2 aK;simp at c0 c1 c2;have la:a.length<=4000000:=by have:=Hpl.o a aK;omega
  have lb:b.length<=4000000:=by have:=Hpl.o b aK;omega
  have ld:d.length<=4000000:=by have:=Hpl.o d aK;omega
  clear Hpl Hcells hlen;have hpn:=fun W=>(show Calls prog 175 #[a,.int .i64 200] W fun e w'=>e=.returned (pnV a 200)/\W=w' from Fl a 200 W aG aJ)
  have Hhead:=@Aa (∀n,Kx a b n↔Cc a=some n/\1<=n/\n<=200/\As b=true) (fun n=>Iff.rfl);have Hno:=Aa (fun(h:∀n,¬Kx a b n)=>HF.o.trans (Ql h));generalize hda:Cc a=od at *;have Hda:=Aa hda;clear hda;cases od with
  |none=>
   have Hpn:=Aa (fun W=>(Pb (m:=200) Hda.o) ▸ hpn W);clear hpn;go_wp2_with fail;refine(Hpn.o _).mono ?_;rintro e w3 ⟨rfl,rfl⟩;go_wp2_with ((with_reducible refine Ad (op:=⟨none,.store 105 _ _,_,_,_,none⟩) rfl 105 _ _ rfl w 0 [.int .i64 0,a8,a8,a8,a8,a8] ?_ ?_ ?_ ?_ ?_ ?_);rfl;rfl;(first|exact aq HT.o _|exact HT.o);kernel_rfl;(simp[Value.oneCell']);intro w9 HS9)
   have HZ:=@Aa (w9.rangeAt w 0 [.int .i64 0,a8,a8,a8,a8,a8]) bc;refine aE (v:=.tuple #[.agg ([.int .i64 0,a8,a8,a8,a8,a8]:List Value).toArray,.bool false]) ?_ rfl ?_
   ·exact fe
   exact i9
  |some n=>
   have Hpn:=Aa (fun W=>(Rh (m:=200) Hda.o) ▸ hpn W);clear hpn;have hn9:n<=999999:=(Bt.1 Hda.o).1;rcases aF 200 n with h200|h200
   ·exact fj
   have Hdec:=Aa (show decide (n<=200)=true by simp;omega);rw[Hdec.o]at Hpn;rcases Nat.eq_zero_or_pos n with h0|h0
   ·exact fk
   have hlt1:decide ((n:Int)<1)=false:=dn;have Hname:=Aa (fun W=>Jt b W aG);generalize hnb:As b=nb at *;have Hnb:=Aa hnb;clear hnb;go_wp2_with fail;refine(Hpn.o _).mono ?_;rintro e w3 ⟨rfl,rfl⟩;go_wp2_with fail;refine(Hname.o _).mono ?_;rintro e w4 ⟨rfl,hb4⟩;have hz4:w2.heap.size<w4.heap.size:=eE;have HT4:=@Aa (w4.there w 0 6) (Ar (aq HT.o _) aN hb4);have HR4:=@Aa (w4.rangeAt w2 0 [(n:Int),b,a8,a8,a8,vl]) (Au (Cg w2 _ _) aK hb4);have HK4:=@Aa (w4.there w2 0 6) (Ar (Cq w2 [(n:Int),b,a8,a8,a8,vl] _) aK hb4);have Hb4:=@Aa (Below w w w4) ((Hb.o.alloc Hb.o.size _).trans (hb4.mono aN));have c2x:w4.cell? (g,2)=d:=(hb4.cell (p:=⟨g,2,none⟩) aN).trans (by rw[World.cell?_alloc_old _ _ _ aN];exact c2);clear hb4;cases nb with
   |false=>
    go_wp2_with ((with_reducible refine Ad (op:=⟨none,.store 105 _ _,_,_,_,none⟩) rfl 105 _ _ rfl w 0 [.int .i64 0,a8,a8,a8,a8,a8] ?_ ?_ ?_ ?_ ?_ ?_);rfl;rfl;(first|exact aq HT4.o _|exact HT4.o);kernel_rfl;(simp[Value.oneCell']);intro w9 HS9)
    have HZ:=@Aa (w9.rangeAt w 0 [.int .i64 0,a8,a8,a8,a8,a8]) bN;refine aE (v:=.tuple #[.agg ([.int .i64 0,a8,a8,a8,a8,a8]:List Value).toArray,.bool false]) ?_ rfl ?_
    ·exact fe
    exact ia
   |true=>
    have Hok:=@Aa (Kx a b n) ((Hhead.o n).2 ⟨rfl,h0,h200,rfl⟩);have HF2:=Aa (HF.o.trans (Qey (c:=d) (vl:=vl) (td:=td) Hst0.o Hok.o));clear Hno Hhead HF;have Hkd:=Aa (fun W=>Ph d W ld);have Hkok:=Aa (fun k (h:Cd d=some k)=>(D2.1 h).1);generalize Cd d=ok at HF2 Hkd Hkok;go_wp2_with fail;refine(Hkd.o _).mono ?_;rintro e w5 ⟨hcase,hb5⟩;have HT5:=@Aa (w5.there w 0 6) (Ar HT4.o aG hb5);have HR5:=@Aa (w5.rangeAt w2 0 _) (Au HR4.o hz4 hb5);have HK5:=@Aa (w5.there w2 0 6) (Ar HK4.o hz4 hb5);have Hb5:=Aa (Hb4.o.trans (hb5.mono Hb4.o.size));have hz5:w2.heap.size<w5.heap.size:=ac hz4 hb5.size;clear hb5;cases ok with
    |none=>
     obtain⟨a1,a2,a3,rfl⟩:=hcase;go_wp2_with (first|((with_reducible refine Ad (op:=⟨none,.store 62 _ _,_,_,_,none⟩) rfl 62 _ _ rfl w2 2 [.string a1,.string a2,.string a3] ?_ ?_ ?_ ?_ ?_ ?_);rfl;rfl;(exact Ja HK5.o 2 3 aJ aJ);kernel_rfl;(simp[Value.oneCell']);intro w6 HS6;have HT6:=@Aa (w6.there w 0 6) (HS6.o ▸ ai HT5.o _ _ _);have HR6:=@Aa (w6.rangeAt w2 0 [(n:Int),b,.string a1,.string a2,.string a3,vl]) (HS6.o ▸ Cp [(n:Int),b] [a8,a8,a8] [vl] [.string a1,.string a2,.string a3] HR5.o rfl);have Hb6:=@Aa (Below w w w6) (HS6.o ▸ Ah _ (Nat.le_of_lt hzz) _ _ _ Hb5.o);have hz6:w2.heap.size<w6.heap.size:=cS;have z2:w6.cell? (w2,2)=some (.string a1):=cz;have z3:w6.cell? (w2,3)=some (.string a2):=cC;clear HT5 HR5 HK5 HS6)|((with_reducible refine Ad (op:=⟨none,.store 105 _ _,_,_,_,none⟩) rfl 105 _ _ rfl w 0 [.int .i64 0,a8,a8,a8,a8,a8] ?_ ?_ ?_ ?_ ?_ ?_);rfl;rfl;(first|exact aq HT6.o _|exact HT6.o);kernel_rfl;(simp[Value.oneCell']);intro w9 HS9))
     have HZ:=@Aa (w9.rangeAt w 0 [.int .i64 0,a8,a8,a8,a8,a8]) bO;refine aE (v:=.tuple #[.agg ([.int .i64 0,a8,a8,a8,a8,a8]:List Value).toArray,.bool false]) ?_ rfl ?_
     ·exact fe
     exact Dc.no HF2.o rfl bu
    |some k=>
     have hcase':e=.returned (.tuple #[.agg #[k.signs,k.base,k.name],.bool true]):=hcase;subst hcase';clear hcase;have Hkk:=Aa (Hkok.o k rfl);have HF3:=@Aa (Fr st s=if td=true/\¬(st=82/\k.signs=[]/\Bq k.base vl=true)then none else some ⟨n,b,k,vl⟩) HF2.o;clear HF2 Hkok;cases td with
     |false=>
      go_wp2_with (first|((with_reducible refine Ad (op:=⟨none,.store 62 _ _,_,_,_,none⟩) rfl 62 _ _ rfl w2 2 [k.signs,k.base,k.name] ?_ ?_ ?_ ?_ ?_ ?_);rfl;rfl;(exact Ja HK5.o 2 3 aJ aJ);kernel_rfl;(simp[Value.oneCell']);intro w6 HS6;have HT6:=@Aa (w6.there w 0 6) (HS6.o ▸ ai HT5.o _ _ _);have HR6:=@Aa (w6.rangeAt w2 0 [(n:Int),b,k.signs,k.base,k.name,vl]) (HS6.o ▸ Cp [(n:Int),b] [a8,a8,a8] [vl] [k.signs,k.base,k.name] HR5.o rfl);have Hb6:=@Aa (Below w w w6) (HS6.o ▸ Ah _ (Nat.le_of_lt hzz) _ _ _ Hb5.o);have hz6:w2.heap.size<w6.heap.size:=cS;have z2:w6.cell? (w2,2)=k.signs:=cz;have z3:w6.cell? (w2,3)=k.base:=cC;clear HT5 HR5 HK5 HS6)|((with_reducible refine Ad (op:=⟨none,.store 105 _ _,_,_,_,none⟩) rfl 105 _ _ rfl w 0 [(n:Int),b,k.signs,k.base,k.name,vl] ?_ ?_ ?_ ?_ ?_ ?_);rfl;rfl;(first|exact aq HT6.o _|exact HT6.o);kernel_rfl;(simp[Value.oneCell']);intro w9 HS9)|((with_reducible refine wpList_load_mid (op:=⟨_,.load 105 _,_,_,_,none⟩) rfl 105 _ rfl w2 0 ?_ [(n:Int),b,k.signs,k.base,k.name,vl] _ HR6.o underlying105 ?_ ?_ ?_);rfl;rfl;kernel_rfl))
      have HZ:=@Aa (w9.rangeAt w 0 [(n:Int),b,k.signs,k.base,k.name,vl]) bO;refine aE (v:=.tuple #[.agg ([(n:Int),b,k.signs,k.base,k.name,vl]:List Value).toArray,.bool true]) ?_ rfl ?_
      ·exact gd
      exact Dc.yes (HF3.o.trans (if_neg aK)) rfl bu
     |true=>
      rcases Decidable.em (st=82)with h82|h82
      ·have n82:((st.toNat:Int) != 82)=false:=Jz (c:=st) (d:=82) h82;rcases Decidable.em (k.signs=[])with hsg|hsg
       ·have hsg1:(k.signs != [])=false:=ct;have hsg2:k.signs.isEmpty=true:=ct;have hsg3:(!k.signs.isEmpty)=false:=ct;have hbl:=Qa4 Hkk.o.2.1;have Hst:=Aa (fun W=>Vj k.base vl W hbl aG)
        have Hst2:=Aa (show Fr st s=if Bq k.base vl=true then some ⟨n,b,k,vl⟩else none from by
         rw[HF3.o];by_cases hh:Bq k.base vl=true
         ·rw[if_neg (by simp[h82,hsg,hh]),if_pos hh]
         rw[if_pos (by simp[hh]),if_neg hh])
        generalize Bq k.base vl=sb at Hst Hst2;clear hsg h82 hbl;go_wp2_with ((with_reducible refine Ad (op:=⟨none,.store 62 _ _,_,_,_,none⟩) rfl 62 _ _ rfl w2 2 [k.signs,k.base,k.name] ?_ ?_ ?_ ?_ ?_ ?_);rfl;rfl;(exact Ja HK5.o 2 3 aJ aJ);kernel_rfl;(simp[Value.oneCell']);intro w6 HS6;have HT6:=@Aa (w6.there w 0 6) (HS6.o ▸ ai HT5.o _ _ _);have HR6:=@Aa (w6.rangeAt w2 0 [(n:Int),b,k.signs,k.base,k.name,vl]) (HS6.o ▸ Cp [(n:Int),b] [a8,a8,a8] [vl] [k.signs,k.base,k.name] HR5.o rfl);have Hb6:=@Aa (Below w w w6) (HS6.o ▸ Ah _ (Nat.le_of_lt hzz) _ _ _ Hb5.o);have hz6:w2.heap.size<w6.heap.size:=cS;have z2:w6.cell? (w2,2)=k.signs:=cz;have z3:w6.cell? (w2,3)=k.base:=cC;clear HT5 HR5 HK5 HS6)
        refine(Hst.o _).mono ?_;rintro e w7 ⟨rfl,hb7⟩;have HT7:=@Aa (w7.there w 0 6) (Ar HT6.o aG hb7);have HR7:=@Aa (w7.rangeAt w2 0 _) (Au HR6.o hz6 hb7);have Hb7:=Aa (Hb6.o.trans (hb7.mono Hb6.o.size));clear hb7 z2 z3;cases sb with
        |true=>
         go_wp2_with (first|((with_reducible refine Ad (op:=⟨none,.store 105 _ _,_,_,_,none⟩) rfl 105 _ _ rfl w 0 [(n:Int),b,k.signs,k.base,k.name,vl] ?_ ?_ ?_ ?_ ?_ ?_);rfl;rfl;(first|exact aq HT7.o _|exact HT7.o);kernel_rfl;(simp[Value.oneCell']);intro w9 HS9)|((with_reducible refine wpList_load_mid (op:=⟨_,.load 105 _,_,_,_,none⟩) rfl 105 _ rfl w2 0 ?_ [(n:Int),b,k.signs,k.base,k.name,vl] _ HR7.o underlying105 ?_ ?_ ?_);rfl;rfl;kernel_rfl))
         have HZ:=@Aa (w9.rangeAt w 0 [(n:Int),b,k.signs,k.base,k.name,vl]) dt;refine aE (v:=.tuple #[.agg ([(n:Int),b,k.signs,k.base,k.name,vl]:List Value).toArray,.bool true]) ?_ rfl ?_
         ·exact gd
         exact Dc.yes (Hst2.o.trans (if_pos aK)) rfl cO
        |false=>
         go_wp2_with ((with_reducible refine Ad (op:=⟨none,.store 105 _ _,_,_,_,none⟩) rfl 105 _ _ rfl w 0 [.int .i64 0,a8,a8,a8,a8,a8] ?_ ?_ ?_ ?_ ?_ ?_);rfl;rfl;(first|exact aq HT7.o _|exact HT7.o);kernel_rfl;(simp[Value.oneCell']);intro w9 HS9)
         have HZ:=@Aa (w9.rangeAt w 0 [.int .i64 0,a8,a8,a8,a8,a8]) dt;refine aE (v:=.tuple #[.agg ([.int .i64 0,a8,a8,a8,a8,a8]:List Value).toArray,.bool false]) ?_ rfl ?_
         ·exact fe
         exact Dc.no (Hst2.o.trans (if_neg aJ)) rfl cO
       have hsg1:(k.signs != [])=true:=ct;have hsg2:k.signs.isEmpty=false:=ct;have hsg3:(!k.signs.isEmpty)=true:=ct;have Hw:=Aa (HF3.o.trans (if_pos ⟨rfl,fun h=>hsg h.2.1⟩));clear hsg h82;go_wp2_with (first|((with_reducible refine Ad (op:=⟨none,.store 62 _ _,_,_,_,none⟩) rfl 62 _ _ rfl w2 2 [k.signs,k.base,k.name] ?_ ?_ ?_ ?_ ?_ ?_);rfl;rfl;(exact Ja HK5.o 2 3 aJ aJ);kernel_rfl;(simp[Value.oneCell']);intro w6 HS6;have HT6:=@Aa (w6.there w 0 6) (HS6.o ▸ ai HT5.o _ _ _);have HR6:=@Aa (w6.rangeAt w2 0 [(n:Int),b,k.signs,k.base,k.name,vl]) (HS6.o ▸ Cp [(n:Int),b] [a8,a8,a8] [vl] [k.signs,k.base,k.name] HR5.o rfl);have Hb6:=@Aa (Below w w w6) (HS6.o ▸ Ah _ (Nat.le_of_lt hzz) _ _ _ Hb5.o);have hz6:w2.heap.size<w6.heap.size:=cS;have z2:w6.cell? (w2,2)=k.signs:=cz;have z3:w6.cell? (w2,3)=k.base:=cC;clear HT5 HR5 HK5 HS6)|((with_reducible refine Ad (op:=⟨none,.store 105 _ _,_,_,_,none⟩) rfl 105 _ _ rfl w 0 [.int .i64 0,a8,a8,a8,a8,a8] ?_ ?_ ?_ ?_ ?_ ?_);rfl;rfl;(first|exact aq HT6.o _|exact HT6.o);kernel_rfl;(simp[Value.oneCell']);intro w9 HS9))
       have HZ:=@Aa (w9.rangeAt w 0 [.int .i64 0,a8,a8,a8,a8,a8]) bO;refine aE (v:=.tuple #[.agg ([.int .i64 0,a8,a8,a8,a8,a8]:List Value).toArray,.bool false]) ?_ rfl ?_
       ·exact fe
       exact Dc.no Hw.o rfl bu
      have n82:((st.toNat:Int) != 82)=true:=M1 (c:=st) (d:=82) h82;have Hw:=Aa (HF3.o.trans (if_pos ⟨rfl,fun h=>h82 h.1⟩));clear h82;go_wp2_with (first|((with_reducible refine Ad (op:=⟨none,.store 62 _ _,_,_,_,none⟩) rfl 62 _ _ rfl w2 2 [k.signs,k.base,k.name] ?_ ?_ ?_ ?_ ?_ ?_);rfl;rfl;(exact Ja HK5.o 2 3 aJ aJ);kernel_rfl;(simp[Value.oneCell']);intro w6 HS6;have HT6:=@Aa (w6.there w 0 6) (HS6.o ▸ ai HT5.o _ _ _);have HR6:=@Aa (w6.rangeAt w2 0 [(n:Int),b,k.signs,k.base,k.name,vl]) (HS6.o ▸ Cp [(n:Int),b] [a8,a8,a8] [vl] [k.signs,k.base,k.name] HR5.o rfl);have Hb6:=@Aa (Below w w w6) (HS6.o ▸ Ah _ (Nat.le_of_lt hzz) _ _ _ Hb5.o);have hz6:w2.heap.size<w6.heap.size:=cS;have z2:w6.cell? (w2,2)=k.signs:=cz;have z3:w6.cell? (w2,3)=k.base:=cC;clear HT5 HR5 HK5 HS6)|((with_reducible refine Ad (op:=⟨none,.store 105 _ _,_,_,_,none⟩) rfl 105 _ _ rfl w 0 [.int .i64 0,a8,a8,a8,a8,a8] ?_ ?_ ?_ ?_ ?_ ?_);rfl;rfl;(first|exact aq HT6.o _|exact HT6.o);kernel_rfl;(simp[Value.oneCell']);intro w9 HS9))
      have HZ:=@Aa (w9.rangeAt w 0 [.int .i64 0,a8,a8,a8,a8,a8]) bO;refine aE (v:=.tuple #[.agg ([.int .i64 0,a8,a8,a8,a8,a8]:List Value).toArray,.bool false]) ?_ rfl ?_
      ·exact fe
      exact Dc.no Hw.o rfl bu
 have Hno:=Aa (HF.o.trans (Se (vl:=vl) (td:=td) (st:=st) (ps:=ps) (by rw[if_neg Hst0.o];exact hlen)));have hl1:¬(ps.length:Int)=3:=aG;have hl2:((ps.length:Int) != 3)=true:=by rw[bne_iff_ne];exact hl1
 clear HF Hpl Hcells;go_wp2_with ((with_reducible refine Ad (op:=⟨none,.store 105 _ _,_,_,_,none⟩) rfl 105 _ _ rfl w 0 [.int .i64 0,a8,a8,a8,a8,a8] ?_ ?_ ?_ ?_ ?_ ?_);rfl;rfl;(first|exact aq HT.o _|exact HT.o);kernel_rfl;(simp[Value.oneCell']);intro w9 HS9)
 have HZ:=@Aa (w9.rangeAt w 0 [.int .i64 0,a8,a8,a8,a8,a8]) bc;refine aE (v:=.tuple #[.agg ([.int .i64 0,a8,a8,a8,a8,a8]:List Value).toArray,.bool false]) ?_ rfl ?_
 ·exact fe
 exact Dc.no Hno.o rfl aV
theorem Ta(st:UInt8)(hst:Dd st)(s:List UInt8)(w:World)(hs:s.length<=4000000):
  Calls prog 166 #[s,.int .u8 (st.toNat:Int)] w (Dc (Fr st s) w):=by
 by_cases h:st=69
 ·exact Qd2 st h s w hs
 exact Qe2 st h s w hs
def Ea(o:Option Ty)(w:World)(e:Ending)(w':World):Prop:=
 (match o with
  |some t=>∃x:PT,x.ty=t/\e=.returned (.tuple #[x.ptr,.bool true])/\w.heap.size<=x.blk/\Pw w' x/\∀k,x.fv.ownBlock=some k->w.heap.size<=k
  |none=>∃p:Option Addr,e=.returned (.tuple #[.pointer p,.bool false]))/\Below w w w'
theorem Ea.no{w w':World}{e:Ending}{o:Option Ty}(ho:o=none){p:Option Addr}(he:e=.returned (.tuple #[.pointer p,.bool false]))(hb:Below w w w'):Ea o w e w':=by
 rw[ho];exact⟨⟨p,he⟩,hb⟩
theorem Ea.yes{w w':World}{e:Ending}{o:Option Ty}{t:Ty}(ho:o=some t){b:Nat}{fv:Value}(he:e=.returned (.tuple #[b,.bool true]))(hwb:w.heap.size<=b)(ht:Pw w' ⟨t,b,fv⟩)(hf:∀k,fv.ownBlock=some k->w.heap.size<=k)(hb:Below w w w'):Ea o w e w':=by
 rw[ho];exact⟨⟨⟨t,b,fv⟩,rfl,he,hwb,ht,hf⟩,hb⟩
theorem Sh(c:UInt8):decide (c∈([82,85,69]:List UInt8))=decide (Dd c):=by
 rw[decide_eq_decide];unfold Dd;simp
theorem Qca(w:World):Calls prog 135 #[a8] w (Ea (Dv []) w):=by
 go_enter func135,ntmps135;go_wp2_with fail;go_ret2;exact Ea.no rfl rfl (At _ _)
theorem Qah(c:UInt8)(r:List UInt8)(w:World)(hs:r.length<=3999999)(hc:¬Dd c):Calls prog 135 #[.string ⟨(c::r).toArray⟩] w (Ea (Dv (c::r)) w):=by
 have HF:=Aa (show Dv (c::r)=none by unfold Dv;simp only;rw[if_pos (.inl hc)])
 have Hc:=Aa (fun W=>(show Calls prog 164 #[.string ⟨#[82,85,69]⟩,.string ⟨#[c]⟩] W fun e w'=>e=.returned (.bool false)/\W=w' from by
  have:=Mf [82,85,69] c W;rw[Sh,aB hc]at this;exact this))
 clear hc;go_enter func135,ntmps135;go_wp2_with fail;refine(Hc.o _).mono ?_;rintro e w' ⟨rfl,rfl⟩;go_wp2_with fail;go_ret2;exact Ea.no HF.o rfl (At _ _)
theorem Qa3(c:UInt8)(r:List UInt8)(w:World)(hs:r.length<=3999999)(hc:Dd c)(h:(Co 61 r).2.2=false\/As (Co 61 r).1=false\/(Co 61 r).2.1=[]):Calls prog 135 #[.string ⟨(c::r).toArray⟩] w (Ea (Dv (c::r)) w):=by
 have HF:=Aa (show Dv (c::r)=if (Co 61 r).2.2=false\/As (Co 61 r).1=false then none else(if c=82 then some ⟨c,(Co 61 r).1,[]⟩else none)by
  unfold Dv;simp only;by_cases h1:(Co 61 r).2.2=false\/As (Co 61 r).1=false
  ·rw[if_pos (.inr h1),if_pos h1]
  have h2:(Co 61 r).2.1=[]:=by
   rcases h with h|h|h
   ·exact absurd (.inl h) h1
   ·exact absurd (.inr h) h1
   exact h
  rw[if_neg (fun h3=>h3.elim (fun h3=>h3 hc) h1),if_neg h1,if_pos h2])
 have Hc:=Aa (fun W=>(show Calls prog 164 #[.string ⟨#[82,85,69]⟩,.string ⟨#[c]⟩] W fun e w'=>e=.returned (.bool true)/\W=w' from by
  have:=Mf [82,85,69] c W;rw[Sh,aC hc]at this;exact this))
 have Hl:=Aa (fun(f:(Co 61 r).2.2=true/\(Co 61 r).2.1=[])=>show Va ⟨c,(Co 61 r).1,[]⟩=c::r from by
  rcases Eg 61 r with⟨_,e⟩|⟨p,t,e1,_,e⟩
  ·rw[e]at f;cases f.1
  rw[e]at f ⊢;simp only at f;have:=f.2;subst this;rw[e1];rfl)
 have Hcut:=Aa (fun W=>Pi r 61 W aG);have hcl:=(Jl 61 r).1;generalize Co 61 r=q at *;obtain⟨nm,rest,told⟩:=q;simp only at hcl HF h Hl;have Hh:=Aa h;have Hc82:=Aa hc;clear hc h;go_enter func135,ntmps135;go_wp2_with fail;refine(Hc.o _).mono ?_;rintro e w' ⟨rfl,rfl⟩;go_wp2_with fail;refine(Hcut.o _).mono ?_;rintro e w1 ⟨rfl,k1,rfl⟩;unfold Zl;cases told with
 |false=>
  go_wp2_with fail;go_ret2;exact Ea.no (HF.o.trans (if_pos aK)) rfl (below_drewN (At _ _) _)
 |true=>
  have Hname:=Aa (fun W=>Jt nm W aG);generalize hnb:As nm=nb at *;have Hnb:=Aa hnb;clear hnb;go_wp2_with fail;refine(Hname.o _).mono ?_;rintro e w2 ⟨rfl,hb2⟩;have Hb2:=@Aa (Below w w w2) ((below_drewN (At _ _) k1).trans (by simpa using hb2));clear hb2;cases nb with
  |false=>
   go_wp2_with fail;go_ret2;exact Ea.no (HF.o.trans (if_pos aK)) rfl Hb2.o
  |true=>
   obtain rfl:rest=[]:=by
    rcases Hh.o with h|h|h
    ·cases h
    ·cases h
    exact h
   have HF2:=Aa (HF.o.trans (if_neg aK));have Hl2:=Aa (Hl.o aK);have hz:=Hb2.o.size;rcases Decidable.em (c=82)with h82|h82
   ·have t1:((c.toNat:Int) == 82)=true:=Bk (d:=82) h82;have HF3:=Aa (HF2.o.trans (if_pos h82));clear h82;go_wp2_with fail;go_quiet (fail)
    go_wp2_with fail;go_ret2;refine Ea.yes HF3.o (b:=w2.heap.size) (fv:=.slice none 0 0) rfl Hb2.o.size ?_ (fun k hk=>by simp[Value.ownBlock]at hk) cT;refine⟨by simp,by first|exact N4.new _ _ _|exact N4.belowAt (N4.new w2 _ _) aK (by first|exact below_drewN (At _ _) _|exact(At _ _).drew),by simp,by simp,by simp,?_,none,0,rfl,by simp,rfl,ag _,fun h=>absurd h aK⟩;rw[Hl2.o];simp
   have t1:((c.toNat:Int) == 82)=false:=Am (d:=82) h82;have HF3:=Aa (HF2.o.trans (if_neg h82));clear h82;go_wp2_with fail;go_quiet (fail)
   go_wp2_with fail;go_ret2;exact Ea.no HF3.o rfl cT
def Qfk(c:UInt8)(nm:List UInt8):Option (List Fd)->Option Ty
 |some r=>some ⟨c,nm,r⟩
 |none=>none
theorem Xg{c:UInt8}{r nm rest:List UInt8}(hc:Dd c)(h:Co 61 r=(nm,rest,true))(hn:As nm=true)(hr:rest≠[]):Dv (c::r)=Qfk c nm (Eh c (Ae 44 rest) []):=by
 unfold Dv;simp only[h];rw[if_neg (by simp[hc,hn]),if_neg hr];cases Eh c (Ae 44 rest) []<;>rfl
theorem Vy{c:UInt8}{ps:List (List UInt8)}{acc:List Fd}{k:Nat}(hk:k<ps.length):Eh c (ps.drop k) acc=(match Fr c ps[k]with|none=>none|some f=>if acc.length=8\/E4 acc f=false then none else Eh c (ps.drop (k+1)) (acc++[f])):=by
 rw[List.drop_eq_getElem_cons hk,Eh];cases Fr c ps[k]<;>rfl
theorem Qad{acc:List Fd}{f:Fd}(h:∀g∈acc,g.name≠f.name/\g.tag<f.tag):E4 acc f=true:=Jp.2 h
theorem Yc{acc:List Fd}{f x:Fd}(hx:x∈acc)(h:f.tag<=x.tag\/x.name=f.name):E4 acc f=false:=by
 cases hh:E4 acc f with
 |false=>rfl
 |true=>
  obtain⟨h1,h2⟩:=Jp.1 hh x hx;rcases h with h|h
  ·omega
  exact absurd h h1
theorem Nh(w:World)(a:Addr)(v:Value):w.grownBy (w.setCell a v) (some a.block):=
 ⟨rfl,rfl,rfl,by simp,fun k _ hk=>Go.heap_setCell_other _ _ _ _ (fun e=>hk (by rw[e]))⟩
theorem Tx{w:World}{base k n:Nat}{e:TypeId}{v:Value}{xs:List Value}(h:w.ownsRow base e k v n xs):∃A m c,v=.slice A m c:=by
 rcases h.2 with⟨rfl,_⟩|⟨g,cap,cur,rfl,_⟩
 ·exact⟨_,_,_,rfl⟩
 exact⟨_,_,_,rfl⟩
theorem Tryz.infoIf:(prog.info? 105).map (fun i=>(i.zero,i.size,i.bytes))=some (some (.agg #[.int .i64 0,a8,a8,a8,a8,a8]),6,88):=aM
theorem Qga(fs:List Fd):∀y∈fs.flatMap Qm,y.oneCell'=true:=by
 intro y hy;obtain⟨f,_,hf⟩:=List.mem_flatMap.1 hy;simp[Qm]at hf;rcases hf with rfl|rfl|rfl|rfl|rfl|rfl<;>rfl
end
end Go.Proofs.YtpjijpcemejlnaaGreatDoor
