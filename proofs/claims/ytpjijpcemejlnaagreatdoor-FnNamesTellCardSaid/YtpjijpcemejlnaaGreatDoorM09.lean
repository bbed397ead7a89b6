/- Texts joined. Conditions: as each theorem names them. -/
import Derived.BigRegion
import Derived.BigQuiet
import Derived.Deep.QuietTactic
import Derived.Test.YtpjijpcemejlnaaGreatDoorM06
import Derived.Test.YtpjijpcemejlnaaGreatDoorM08
import Derived.Test.YtpjijpcemejlnaaGreatDoorM19
set_option maxRecDepth 100000
set_option maxHeartbeats 32000000
set_option linter.unusedVariables false
set_option linter.unusedSimpArgs false
namespace Go.Proofs.YtpjijpcemejlnaaGreatDoor
open Go.RowKit Go.Proofs.Tryz
section
open Go.RowKit Go.Sort
attribute [local go_sem] Qkk Qj0 Qjm Qhu ByteArray.mk_append_mk
def Qka(bo:Option (List Ty × Kd))(x:List UInt8)(w:World)(e:Ending)(w':World):Prop:=
 (∃p k1 k2 k3 v sl,e=.returned (.tuple #[.pointer p,.agg #[.string k1,.string k2,.string k3],Np v sl,.bool (Tz bo x).isSome])/\Fb (fun c=>w.heap.size<=c) w' sl v.kids /\
  ∀y,Tz bo x=some y->v=y/\∃S k xs,bo=some (S,k)/\Ai xs=S/\k1=⟨k.signs.toArray⟩/\k2=⟨k.base.toArray⟩/\k3=⟨k.name.toArray⟩/\Xc w' (.pointer p) xs)/\Below w.heap.size w w'
theorem Vy{xs:List PT}{n:Cq}{t:Ty}(h:Bw (Ai xs) n=some t):∃x,Ex xs n=some x/\x.ty=t:=by
 rw[Jt]at h
 cases hq:Ex xs n with
 |none=>rw[hq]at h;cases h
 |some x=>rw[hq]at h;injection h with h;exact⟨x,rfl,h⟩
theorem Qit{xs:List PT}{d:Nat}{k:Kd}{v:Vl}(h:Gy (Ai xs) (d+1) k v):((Qn xs k).any fun x=>decide (x.ty.sort=82))=decide (v.what=82):=by
 have hn:∀{k:Kd},¬(k.signs=[]/\k.base=[64])->Qn xs k=none:=fun h=>if_neg h
 have hy:∀{k:Kd} {t:Ty},k.signs=[]->k.base=[64]->Bw (Ai xs) k.name=some t->((Qn xs k).any fun x=>decide (x.ty.sort=82))=decide (t.sort=82):=fun h1 h2 h3=>by
  obtain⟨x,hx,rfl⟩:=Vy h3
  unfold Qn
  rw[if_pos ⟨h1,h2⟩,hx]
  rfl
 cases h with
 |n hs hb h=>rw[hn (by rw[hb];simp)];rfl
 |t hs hb h=>rw[hn (by rw[hb];simp)];rfl
 |f hs hb=>rw[hn (by rw[hb];simp)];rfl
 |lst hs=>rw[hn (by rw[hs];simp)];rfl
 |non hs=>rw[hn (by rw[hs];simp)];rfl
 |som hs=>rw[hn (by rw[hs];simp)];rfl
 |enm hs hb ht h9=>rw[hy hs hb ht,h9];rfl
 |uni hs hb ht h5=>rw[hy hs hb ht,h5];rfl
 |rcd hs hb ht h2=>rw[hy hs hb ht,h2];rfl
theorem Vs{n:Nat}:∀{l:List (List UInt8)},(∀p∈l,p.length<=n)->Dx l<=l.length*(n+1)
 |[],_=>by simp[Dx]
 |p::l,h=>by
  rw[Fs,List.length_cons,Nat.succ_mul]
  have:=h p (by simp)
  have:=Vs (l:=l) fun q hq=>h q (by simp[hq])
  omega
theorem Qgf(s d x:List UInt8)(w:World)(HG:Calls prog 42 #[.string ⟨s.toArray⟩,.string ⟨d.toArray⟩,.string ⟨x.toArray⟩] w (Qka (C0 s d) x w)):
  Calls prog 29 #[.string ⟨s.toArray⟩,.string ⟨d.toArray⟩,.string ⟨x.toArray⟩] w (Vg (vlB (C0 s d) x Ma) w):=by
 have HG:=Aa HG
 go_enter func29,ntmps29
 go_wp2_with fail
 refine HG.o.mono ?_
 rintro e w1 ⟨⟨p,k1,k2,k3,v,sl,rfl,hs1,hy⟩,hb1⟩
 obtain⟨A1,c1,rfl⟩:=hs1.form
 have Hb1:=Aa hb1
 cases hv:Tz (C0 s d) x with
 |none=>
  have HV:=Aa (Qdy (f:=Ma) hv)
  rw[Option.isSome_none]
  unfold Np
  clear hs1 hb1 hy hv HG
  go_wp2_with fail
  go_ret2
  refine⟨by rw[HV.o];rfl,?_⟩
  have h:=Hb1.o
  exact(h.alloc h.size _).alloc (by simp;have:=h.size;omega) _
 |some y=>
  obtain⟨rfl,S,k,xs,hbo,rfl,rfl,rfl,rfl,hsc⟩:=hy y hv
  obtain⟨S',k',e1,hok,hk,href,hkd,hvok,hpr,hxl⟩:=Rx hv
  rw[hbo]at e1
  injection e1 with e1
  injection e1 with e1 e2
  subst e1 e2
  have hS:=hok.1.1
  have HE:=Aa (show vlB (C0 s d) x Ma=Ma (Ai xs) k v by
   rw[hbo]
   have h:J1 (Ai xs) k x=some v:=by rw[hbo]at hv;exact hv
   simp[vlB,h])
  have HR:=Aa (fun W (hW:Below w1.heap.size w1 W)=>Qbt (.pointer p) xs k W (hsc.below hW) (by have:=Kr hk;omega) (fun h=>by
   obtain⟨t,ht⟩:=Option.isSome_iff_exists.1 (href h)
   obtain⟨x,hx,_⟩:=Vy ht
   exact⟨x,hx⟩))
  rw[Qit hvok]at HR
  rw[Option.isSome_some]
  have Hs1:=Aa hs1
  have hty:=hsc.tys
  unfold J2 at HR
  by_cases h82:v.what=82
  ·have HE2:=Aa (HE.o.trans (if_pos h82))
   rw[decide_eq_true h82]at HR
   have hrec:∃(t:Ty) (fs:List (Fd × Vl)),k.signs=[]/\k.base=[64]/\Bw (Ai xs) k.name=some t/\v.kids=fs.map Dk/\(∀p∈fs,Bf t.fields p.1.tag=some p.1)/\fs.Pairwise fun p q=>p.1.tag<q.1.tag:=by
    cases hvok with
    |n=>exact absurd h82 (by simp[Vl.what])
    |t=>exact absurd h82 (by simp[Vl.what])
    |f=>exact absurd h82 (by simp[Vl.what])
    |lst=>exact absurd h82 (by simp[Vl.what])
    |non=>exact absurd h82 (by simp[Vl.what])
    |som=>exact absurd h82 (by simp[Vl.what])
    |enm=>exact absurd h82 (by simp[Vl.what])
    |uni=>exact absurd h82 (by simp[Vl.what])
    |@rcd _ _ t fs hs hbs ht h2 hf h hn hp=>exact⟨t,fs,hs,hbs,ht,rfl,hf,hp⟩
   obtain⟨t,fs,hs,hbs,ht,hkids,hf,hp⟩:=hrec
   obtain⟨x,hx,hxt⟩:=Vy ht
   subst hxt
   have hix:=hty x (Gx hx).1
   have hfew:=Qaf hS ht hf hp
   have hnames:=Yo hS ht hf hp
   have hkl:v.kids.length=fs.length:=by rw[hkids,List.length_map]
   have hfk:∀y∈v.kids,∃q∈fs,y.tag=q.1.tag:=fun y hy=>by
    rw[hkids]at hy
    obtain⟨q,hq,rfl⟩:=List.mem_map.1 hy
    exact⟨q,hq,rfl⟩
   have hfn:∀y∈v.kids,y.tag<=1000000000/\(Da (Ai xs) k y.tag).length<=3/\∃f,Bf x.ty.fields y.tag=some f/\f.name=Da (Ai xs) k y.tag:=fun y hy=>by
    obtain⟨q,hq,e⟩:=hfk y hy
    have hfo:=(hS x.ty (Bv ht).1).2.2.1.1 q.1 (Cd (hf q hq)).2
    rw[e,H9 ht (hf q hq)]
    have:=hfo.2.1
    exact⟨by omega,(Dp.1 hfo.2.2.1).2.1,q.1,hf q hq,rfl⟩
   have hpw:v.kids.Pairwise fun a b=>Da (Ai xs) k a.tag≠Da (Ai xs) k b.tag:=by
    rw[hkids,List.pairwise_map]
    refine List.Pairwise.imp_of_mem (fun {p q} hp1 hq1 h e=>?_) hp
    have:=hnames _ (List.mem_map_of_mem hp1) _ (List.mem_map_of_mem hq1) e
    have h2:p.1.tag=q.1.tag:=congrArg Vl.tag this
    omega
   have HRO:=Aa (show Qn xs k=some x by unfold Qn;rw[if_pos ⟨hs,hbs⟩,hx])
   rw[HRO.o]at HR
   unfold Pb PT.ptr at HR
   have HB:=Aa (fun W (hW:Below w1.heap.size w1 W)=>Qbb W x (hix.below hW) v _ (.slice A1 v.kids.length c1) (hs1.after hW) (fun g=>Da (Ai xs) k g) (fun y hy=>⟨(hfn y hy).1,(hfn y hy).2.2⟩) hpw (by omega))
   have HX:=Aa (fun y (hy:y∈v.kids)=>(by
    obtain⟨f,hf,hfe⟩:=(hfn y hy).2.2
    obtain⟨b,o,h1,h2,h3⟩:=Zn w1 x hix y.tag (hfn y hy).1 f hf
    refine⟨b,o,h1,?_,fun W hW=>(h3 W hW).mono fun e w' h=>⟨h.1,by rw[<-h.2];exact At _ _⟩⟩
    have:=Ac h2 1 rfl
    rw[hfe]at this
    exact this:∃b o,b<w1.heap.size/\w1.cell? ⟨b,o+1,none⟩=some (.string ⟨(Da (Ai xs) k y.tag).toArray⟩)/\∀W,Below w1.heap.size w1 W->Calls prog 62 #[.pointer (some ⟨x.blk,0,none⟩),.int .i64 y.tag] W fun e w'=>e=.returned (.pointer (some ⟨b,o,none⟩))/\Below W.heap.size W w'))
   have HN:=Aa (fun y (hy:y∈v.kids)=>(hfn y hy).2.1)
   have HT:=Aa (show Qb2 (Ai xs) k v=Ar 44 ((Gd (fun y=>Da (Ai xs) k y.tag) v.kids).map fun y=>Da (Ai xs) k y.tag)from rfl)
   have HP:=Aa (Gu (fun y:Vl=>Da (Ai xs) k y.tag) v.kids)
   have hk8:v.kids.length<=8:=by omega
   unfold PT.ptr at HB
   clear hs1 hb1 hy hv HG hbo hok hk href hkd hvok hpr hxl hS HE hsc hty h82 hs hbs ht hkids hf hp hx hix hfew hnames hkl hfk hfn hpw HRO
   generalize hnm:(fun g=>Da (Ai xs) k g)=nm at *
   have hnm':∀g,Da (Ai xs) k g=nm g:=fun g=>by rw[<-hnm]
   simp only[hnm']at HB HX HN HT HP
   clear hnm hnm'
   unfold Np at HB ⊢
   go_wp2_with fail
   generalize hwg:World.alloc (World.alloc w1 _) _=w2
   have hb2:Below w1.heap.size w1 w2:=by rw[<-hwg];exact((At _ _).alloc (Ao _) _).alloc (by simp) _
   have c0:w2.cell? ⟨w1.heap.size+1,0,none⟩=some (.int .u8 (v.what.toNat:Int)):=by rw[<-hwg];simp[go_sem]
   have c1':w2.cell? ⟨w1.heap.size+1,1,none⟩=some (.string ⟨v.text.toArray⟩):=by rw[<-hwg];simp[go_sem]
   have c2:w2.cell? ⟨w1.heap.size+1,2,none⟩=some (.int .i64 (v.tag:Int)):=by rw[<-hwg];simp[go_sem]
   have c3:w2.cell? ⟨w1.heap.size+1,3,none⟩=some (.slice A1 v.kids.length c1):=by rw[<-hwg];simp[go_sem]
   have l2:w1.heap.size+1<w2.heap.size:=by rw[<-hwg];simp
   have Hb2:=Aa hb2
   clear hwg hb2
   refine(HR.o _ Hb2.o).mono ?_
   rintro e w3 ⟨rfl,hb3⟩
   have Hb3:=Aa (Hb2.o.trans (hb3.mono Hb2.o.size))
   replace c0:=(hb3.cell (p:=⟨w1.heap.size+1,0,none⟩) l2).trans c0
   replace c1':=(hb3.cell (p:=⟨w1.heap.size+1,1,none⟩) l2).trans c1'
   replace c2:=(hb3.cell (p:=⟨w1.heap.size+1,2,none⟩) l2).trans c2
   replace c3:=(hb3.cell (p:=⟨w1.heap.size+1,3,none⟩) l2).trans c3
   have l3:w1.heap.size+1<w3.heap.size:=Nat.lt_of_lt_of_le l2 hb3.size
   clear hb3 l2 HR
   go_wp2_with fail
   refine(HB.o _ Hb3.o).mono ?_
   rintro e w4 ⟨sl',rfl,hiv,hb4⟩
   have Hb4:=Aa (Hb3.o.trans (hb4.mono Hb3.o.size))
   obtain⟨A4,c4,ys,rfl,hk4,hl4,hr4,_,hs4⟩:=hiv
   have hyl:ys.length<=8:=by
    have:=HP.o.length_eq
    rw[hk4]at this
    simp[Bb]at this
    omega
   have Hr4:=Aa hr4
   have Hs4:=Aa hs4
   have Hm4:=Aa (fun z (hz:z∈ys)=>HP.o.mem_iff.1 (by rw[hk4];exact List.mem_map_of_mem hz):∀z∈ys,z.1∈v.kids)
   have HT2:=Aa (show Qb2 (Ai xs) k v=Ar 44 (ys.map fun y=>nm y.1.tag)by rw[HT.o,hk4,Bb,List.map_map];rfl)
   clear hk4 hr4 hs4 hb4 hl4 HB HP HT c0 c1' c2 c3 l3
   go_wp2_with fail
   go_loopw [39,13] (fun i u wr=>∃(m:Nat) (A3:Option Addr) (n3 q3:Nat),i=.int .i64 m/\u=.slice A3 n3 q3/\m<=ys.length/\Hid (wr.ownsRow w4.heap.size 9 1 (.slice A3 n3 q3) m (Ah ((ys.take m).map fun y=>nm y.1.tag)))/\Hid (Below w4.heap.size w4 wr)) (fun i _ _=>ys.length - (intOf i).toNat)
   case atStart=>exact⟨0,none,0,0,rfl,rfl,Nat.zero_le _,World.ownsRow_nil _ _ _ _,At _ _⟩
   case round=>
    obtain⟨m,A3,n3,q3,rfl,rfl,hm,Hown,Hbr⟩:=hrel
    have m1:(0:Int)<=(m:Int):=by omega
    by_cases hlt:m<ys.length
    ·have m2:(m:Int)<(ys.length:Int):=by omega
     obtain⟨b,off,rfl,hb,d0,d1,d2,d3⟩:=Fb.at_ (Hr4.o.below Hbr.o) hlt
     have Hts:=Aa (Bt ys m hlt)
     have hsz:w4.heap.size<=wr.heap.size:=Hbr.o.size
     have hbn:¬(b=wr.heap.size):=by omega
     obtain⟨A7,c7,e7⟩:=(Hs4.o _ (List.getElem_mem hlt)).form
     obtain⟨b6,o6,hb6,hc6,hX6⟩:=HX.o _ (Hm4.o _ (List.getElem_mem hlt))
     have Hbw:=Aa (Hb4.o.trans (Hbr.o.mono Hb4.o.size))
     replace hc6:=(Hbw.o.cell (p:=⟨b6,o6+1,none⟩) hb6).trans hc6
     have hl6:b6<wr.heap.size:=Nat.lt_of_lt_of_le hb6 Hbw.o.size
     have HX6:=Aa hX6
     rw[e7]at d3
     clear hX6 e7 hb6
     generalize ys[m]=z at *
     obtain⟨y,ysl⟩:=z
     simp only at d0 d1 d2 d3 hc6 HX6
     go_wp2_with fail
     refine(HX6.o _ (Hbw.o.trans (((At _ wr).alloc (Ao _) _).mono Hbw.o.size))).mono ?_
     rintro e w5 ⟨rfl,hb5⟩
     have Hb5:=Aa (((At _ wr).alloc (Ao _) _).trans (hb5.mono (by simp)))
     replace hc6:=(Hb5.o.cell (p:=⟨b6,o6+1,none⟩) hl6).trans hc6
     have hl5:b6<w5.heap.size:=Nat.lt_of_lt_of_le hl6 Hb5.o.size
     have Ho5:=Aa (Bl Hown.o Hb5.o)
     have hs5:w4.heap.size<=w5.heap.size:=Nat.le_trans hsz Hb5.o.size
     clear hb5 d0 d1 d2 d3
     go_wp2_with (at_builtin;refine Me _ rfl _ _ 31 rfl w4.heap.size 9 (.string ⟨#[]⟩) 16 underlying31 Ef rfl w5 (.string ⟨(nm y.tag).toArray⟩) rfl rfl (.slice A3 n3 q3) m (Ah ((ys.take m).map fun y=>nm y.1.tag)) rfl rfl Ho5.o (by unfold maxLen;omega) (by omega) hs5 ?_;intro v' w6 hown6 hb6;obtain⟨A5,n5,c5,rfl⟩:=M6 hown6;have Ho:=Aa hown6;have Hb6:=Aa hb6;clear hown6 hb6)
     go_roundw
     case rel=>exact⟨m+1,A5,n5,c5,by go_num,rfl,by omega,(by rw[Hts.o,List.map_append,Ml];exact Ho.o),(Hbr.o.trans (Hb5.o.mono hsz)).trans Hb6.o⟩
     case measure=>simp[intOf];omega
    ·obtain rfl:m=ys.length:=by omega
     have hown6:=Hown.o
     rw[List.take_length]at hown6
     obtain⟨A6,c6,e6,hr6⟩:=Bj.own hown6
     have hcap:=Qdt hown6
     injection e6 with e7 e8 e9
     subst e7 e8 e9
     have hpl:(ys.map fun y=>nm y.1.tag).length=ys.length:=by simp
     have HJ:=Aa (by
      have h3:=Vs (n:=3) (l:=ys.map fun y=>nm y.1.tag) fun p hp=>by
       obtain⟨z,hz,rfl⟩:=List.mem_map.1 hp
       exact HN.o _ (Hm4.o z hz)
      have:=Qgh 44 A3 q3 (ys.map fun y=>nm y.1.tag) wr (by rw[hpl];exact hr6) (by rw[hpl];omega) (by rw[hpl]at h3;omega)
      rw[hpl,<-HT2.o]at this
      exact this:Calls prog 45 #[.slice A3 ys.length q3,.string ⟨#[44]⟩] wr fun e w'=>e=.returned (.string ⟨(Qb2 (Ai xs) k v).toArray⟩)/\Below wr.heap.size wr w')
     have Hb6:=Aa (Hb1.o.trans ((Hb4.o.trans (Hbr.o.mono Hb4.o.size)).mono Hb1.o.size))
     clear hown6 hr6 hcap hpl Hown HX HN
     go_wp2_with fail
     refine HJ.o.mono ?_
     rintro e w7 ⟨rfl,hb7⟩
     have Hb7:=Aa (Hb6.o.trans (hb7.mono Hb6.o.size))
     clear hb7
     go_wp2_with fail
     go_ret2
     exact⟨by rw[HE2.o];rfl,Hb7.o⟩
  have HE2:=Aa (HE.o.trans (if_neg h82))
  rw[decide_eq_false h82]at HR
  unfold Np
  generalize Pb (Qn xs k)=pr at *
  clear hs1 hb1 hy hv HG hbo hok hk href hkd hvok hpr hxl hS HE hsc hty h82 Hs1
  go_wp2_with fail
  generalize hwg:World.alloc (World.alloc w1 _) _=w2
  have Hb2:=Aa (show Below w1.heap.size w1 w2 by rw[<-hwg];exact((At _ _).alloc (Ao _) _).alloc (by simp) _)
  clear hwg
  refine(HR.o _ Hb2.o).mono ?_
  rintro e w3 ⟨rfl,hb3⟩
  have Hb3:=Aa (Hb1.o.trans ((Hb2.o.trans (hb3.mono Hb2.o.size)).mono Hb1.o.size))
  clear hb3
  go_wp2_with fail
  go_ret2
  exact⟨by rw[HE2.o];rfl,Hb3.o⟩
end
section
attribute [local go_sem] Qkk Qj0 Qjm Qhu ByteArray.mk_append_mk
def Qhp:List UInt8:=[48,49,50,51,52,53,54,55,56,57]
theorem Qhn(c:UInt8):Qhp.contains c=Ba c:=by
 have:=Pr (p:=fun c=>Qhp.contains c == Ba c) eJ c;simpa using this
theorem Qfw(s:List UInt8):s.dropWhile (Qhp.contains ·)=s.dropWhile Ba:=by congr 1;funext c;exact Qhn c
theorem Qgs(s:List UInt8):s.dropWhile (Qcc.contains ·)=s.dropWhile Cb:=by congr 1;funext c;exact Qax c
theorem Q4(p:UInt8->Bool)(s:List UInt8):s.take (s.length - (s.dropWhile p).length)=s.takeWhile p/\(s.dropWhile p).length<=s.length:=by
 have e:s.takeWhile p++s.dropWhile p=s:=List.takeWhile_append_dropWhile;have hl:(s.takeWhile p).length+(s.dropWhile p).length=s.length:=by rw[<-ai,e]
 refine⟨?_,by omega⟩;conv=>lhs;arg 2;rw[<-e]
 rw[show s.length - (s.dropWhile p).length=(s.takeWhile p).length by omega,List.take_left]
def G7(t:List UInt8):Nat:=(Ci (t.takeWhile Ba)).getD 0
def Gf(m:Nat)(t:List UInt8):Bool:=match Ci (t.takeWhile Ba)with|some n=>decide (n<=m)|none=>false
theorem Qiy(m:Nat)(t:List UInt8):pnV (t.takeWhile Ba) m=.tuple #[.int .i64 (G7 t:Int),.bool (Gf m t)]:=by
 unfold pnV G7 Gf;cases Ci (t.takeWhile Ba)<;>rfl
theorem Fw.grow{w w':World}{b:Nat}{p:Value}{t:List UInt8}{bad:Bool}(h:Fw w b p t bad)(hb:Below w w w'):Fw w' b p t bad:=h.far hb h.1
theorem Nz(b m:Nat)(p:Value)(t:List UInt8)(bad:Bool)(w:World)(h:Fw w b p t bad)(hl:t.length<=4000000)(hm:m<=999999):
  Calls prog 143 #[b,.int .i64 m] w fun e w'=>
   e=.returned (.int .i64 (G7 t:Int))/\De w b p (t.dropWhile Ba) (bad || !Gf m t) w':=by
 have Htl:=Aa (fun W=>Nb t Qhp W aL aL);simp only[Qfw]at Htl;have Hpn:=Aa (fun W=>Gm (t.takeWhile Ba) m W (by have:=(Q4 Ba t).1;have h2:=List.length_take_le (t.length - (t.dropWhile Ba).length) t;rw[this]at h2;omega) hm);rw[Qiy]at Hpn;obtain⟨htk,hdl⟩:=Q4 Ba t;have Htk:=Aa htk;unfold Qhp at Htl;have HS:=Aa h;have kw:IntKind.i64.wrap ((t.length:Int) - ((t.dropWhile Ba).length:Int))=(t.length:Int) - ((t.dropWhile Ba).length:Int):=IntWalk.i64_in _ aH;have k1:(0:Int)<=(t.length:Int) - ((t.dropWhile Ba).length:Int):=aH;have k2:(t.length:Int) - ((t.dropWhile Ba).length:Int)<=(t.length:Int):=aH;have k3:((t.length:Int) - ((t.dropWhile Ba).length:Int)).toNat=t.length - (t.dropWhile Ba).length:=aH;generalize G7 t=n at *;generalize Gf m t=ok at *;generalize t.takeWhile Ba=a at *;generalize t.dropWhile Ba=r at *;obtain⟨h0,h1,h2,h3,h4⟩:=h;clear htk h1;go_enter func143,ntmps143;go_wp2_with fail;refine(Htl.o _).mono ?_;rintro e w1 ⟨rfl,hb1⟩;have HS1:=Aa (HS.o.grow hb1);have Hb1:=Aa hb1;have C1:=Aa ((hb1.cell (p:=⟨b,1,none⟩) h0).trans h3);have hz1:b<w1.heap.size:=by have:=hb1.size;omega
 clear hb1 HS h2 h3 h4;go_wp2_with fail;refine M4 [14,15,16,17,18,19,20,21,22,23,24,25,26,27,28,13,29,30,6,7]
  (fun ix v W=>match ix with|0=>v=b|1=>v=b|2=>v=(b,1)|3=>v=t|4=>v=b|5=>v=b|6=>v=(b,1)|7=>v=t|8=>v=(t.length:Int)|9=>v=r|10=>v=(r.length:Int)|11=>v=.int .i64 ((t.length:Int) - (r.length:Int))|12=>v=a|13=>v=(m:Int)|14=>v=.tuple #[(n:Int),.bool ok]|15=>v=.tuple #[(n:Int),.bool ok]|16=>v=(n:Int)|17=>v=.bool ok|18=>v=(n:Int)|19=>v=.bool ok|_=>True)
  (fun L U W=>∃k,W=w1.drewN k) (⟨1,rfl⟩) ?_ ?_
 ·repeat (first|exact An.nil|(refine An.cons ?_ ?_;rotate_left))
  all_goals
   rintro L U W hL hpre HR Hdep K hK;obtain⟨k,hk⟩:=HR.o;have c1:W.cell? (b,1)=t:=by rw[hk];exact C1.o
   clear hk;first|(simp[Region.binds]at hpre;done)|simp[Region.binds]at hpre|clear hpre
  iterate 11
   ·exact fK
  ·exact iC
  ·exact io
  ·exact fK
  ·go_simp;refine(Hpn.o W).mono ?_;rintro e w' ⟨rfl,rfl⟩;exact kF hK HR.o
  iterate 5
   ·exact fK
 rintro L U W hL hφ hR;have e18:U 18=(n:Int):=hφ 18 aL;have e19:U 19=.bool ok:=hφ 19 aL;simp only[e18,e19];clear hφ;obtain⟨k,rfl⟩:=hR;clear hL;have HS2:=Aa (HS1.o.drew k);have Hb2:=Aa (below_drewN Hb1.o k);obtain⟨q0,q1,_,_,_⟩:=HS2.o;have hf1:=q1.live 1;have hf2:=q1.live 2;clear q1;have j2:=HS2.o.2.2.2.1;have j3:=HS2.o.2.2.2.2;cases ok with
 |true=>
  go_wp2_with fail;go_ret;refine⟨rfl,by simpa using HS2.o.setText r,(Cs Hb2.o _).trans (Am _ _ _ _)⟩
 |false=>
  go_wp2_with fail;go_ret;refine⟨rfl,by simpa using(HS2.o.setBad true).setText r,((Cs Hb2.o _).trans (Am _ _ _ _)).trans (Am _ _ _ _)⟩
def Qjt(t:List UInt8)(bad:Bool)(b:Nat)(p:Value)(w:World)(e:Ending)(w':World):Prop:=
 ∃(x t':List UInt8) (bad':Bool),e=.returned x/\De w b p t' bad' w'/\(if bad then none else Mx t)=(if bad' then none else some (x,t'))/\x.length+t'.length<=t.length
theorem Po{c:UInt8}{t:List UInt8}:((Ap c t).getD t).length<=t.length:=by
 cases h:Ap c t with
 |none=>exact Ao _
 |some r=>rw[Ce]at h;subst h;simp
theorem Cc(c:UInt8)(t:List UInt8)(bad:Bool):Ay [c] t bad=if bad then none else Ap c t:=by unfold Ay;rw[Qee]
theorem Qah(t t1 t3:List UInt8)(bad b1 b2 b3:Bool)(h1:t1=(Ay [39] t bad).getD t)(hb1:b1=(Ay [39] t bad).isNone)(h3:t3=(Ay [39] (t1.dropWhile Cb) b1).getD (t1.dropWhile Cb))(hb2:b2=(Ay [39] (t1.dropWhile Cb) b1).isNone)
  (hb3:b3=(b2 || decide (12<(t1.takeWhile Cb).length))):
  (if bad then none else Mx t)=(if b3 then none else some (t1.takeWhile Cb,t3))/\(t1.takeWhile Cb).length+t3.length<=t.length:=by
 have e:(t1.takeWhile Cb).length+(t1.dropWhile Cb).length=t1.length:=by rw[<-ai,List.takeWhile_append_dropWhile]
 rw[Cc]at h1 hb1 h3 hb2;subst h1 hb1 h3 hb2 hb3;constructor
 ·cases bad with
  |true=>simp
  |false=>
   unfold Mx;simp only[ao,if_false];cases Ap 39 t with
   |none=>simp
   |some r=>
    simp only[Option.getD_some,Option.isNone_some,ao,if_false];cases Ap 39 (r.dropWhile Cb)with
    |none=>simp
    |some q=>
     simp only[Option.getD_some,Option.isNone_some,Bool.false_or,decide_eq_true_eq];by_cases h:(r.takeWhile Cb).length<=12
     ·rw[if_pos h,if_neg aH]
     rw[if_neg h,if_pos aH]
 have k1:((if bad=true then none else Ap 39 t).getD t).length<=t.length:=by cases bad;exact Po;exact Ao _
 generalize (if bad=true then none else Ap 39 t)=o at *;have k2:((if o.isNone=true then none else Ap 39 ((o.getD t).dropWhile Cb)).getD ((o.getD t).dropWhile Cb)).length<=((o.getD t).dropWhile Cb).length:=by cases o.isNone;exact Po;exact Ao _
 omega
theorem Qcl(b:Nat)(p:Value)(t:List UInt8)(bad:Bool)(w:World)(h:Fw w b p t bad)(hl:t.length<=4000000):
  Calls prog 144 #[b] w (Qjt t bad b p w):=by
 have Hq:=Aa (Qah t);have Hw1:=Aa (fun W (h:Fw W b p t bad)=>Dd b p t [39] bad W h hl);have hk1:((Ay [39] t bad).getD t).length<=t.length:=fc;have HS:=Aa h;clear h;obtain⟨t1,ht1⟩:∃t1,t1=(Ay [39] t bad).getD t:=⟨_,rfl⟩
 obtain⟨b1,hb1⟩:∃b1,b1=(Ay [39] t bad).isNone:=⟨_,rfl⟩
 rw[<-ht1]at hk1;have Hq:=Aa (fun t3 b2 b3=>Hq.o t1 t3 bad b1 b2 b3 ht1 hb1);rw[<-ht1,<-hb1]at Hw1;clear ht1 hb1;have Htl:=Aa (fun W=>Nb t1 Qcc W aL aL);simp only[Qgs]at Htl;unfold Qcc at Htl;obtain⟨htk,hdl⟩:=Q4 Cb t1;have Htk:=Aa htk;have Hw2:=Aa (fun W (h:Fw W b p (t1.dropWhile Cb) b1)=>Dd b p (t1.dropWhile Cb) [39] b1 W h aH);clear htk;go_enter func144,ntmps144;go_wp2_with fail;refine(Hw1.o _ HS.o).mono ?_;rintro e w1 ⟨rfl,hs1,hg1⟩;have HS1:=Aa hs1;have Hg1:=Aa hg1;obtain⟨z1,_,_,c1,_⟩:=hs1;clear hg1;go_wp2_with fail;refine(Htl.o _).mono ?_;rintro e w2 ⟨rfl,hb2⟩;have HS2:=Aa (HS1.o.grow hb2);have Hg2:=Aa (Hg1.o.trans (Cs hb2 _));have C2:=Aa HS2.o.2.2.2.1;have hz2:b<w2.heap.size:=HS2.o.1;clear hb2 c1 z1;have kw:IntKind.i64.wrap ((t1.length:Int) - ((t1.dropWhile Cb).length:Int))=(t1.length:Int) - ((t1.dropWhile Cb).length:Int):=IntWalk.i64_in _ aH;have k1:(0:Int)<=(t1.length:Int) - ((t1.dropWhile Cb).length:Int):=aH;have k2:(t1.length:Int) - ((t1.dropWhile Cb).length:Int)<=(t1.length:Int):=aH;have k3:((t1.length:Int) - ((t1.dropWhile Cb).length:Int)).toNat=t1.length - (t1.dropWhile Cb).length:=aH;obtain⟨a,ha⟩:∃a,a=t1.takeWhile Cb:=⟨_,rfl⟩
 obtain⟨r,hr⟩:∃r,r=t1.dropWhile Cb:=⟨_,rfl⟩
 rw[<-ha]at Htk;rw[<-hr]at Htk Hw2 hdl kw k1 k2 k3;simp only[<-hr];have Hq:=Aa (fun t3 b2 b3=>Hq.o t3 b2 b3);simp only[<-hr,<-ha]at Hq;clear ha hr;go_wp2_with fail;refine M4 [12,13,14,15,16,17,18,19,20,21,22,23,24,4]
  (fun ix v W=>match ix with|0=>v=b|1=>v=b|2=>v=(b,1)|3=>v=.string ⟨t1.toArray⟩|4=>v=b|5=>v=b|6=>v=(b,1)|7=>v=.string ⟨t1.toArray⟩|8=>v=(t1.length:Int)|9=>v=.string ⟨r.toArray⟩|10=>v=(r.length:Int)|11=>v=.int .i64 ((t1.length:Int) - (r.length:Int))|12=>v=.string ⟨a.toArray⟩|13=>v=.string ⟨a.toArray⟩|_=>True)
  (fun L U W=>∃k,W=w2.drewN k) (⟨1,rfl⟩) ?_ ?_
 ·repeat (first|exact An.nil|(refine An.cons ?_ ?_;rotate_left))
  all_goals
   rintro L U W hL hpre HR Hdep K hK;obtain⟨k,hk⟩:=HR.o;have c1:W.cell? (b,1)=some (.string ⟨t1.toArray⟩):=by rw[hk];exact C2.o
   clear hk;first|(simp[Region.binds]at hpre;done)|simp[Region.binds]at hpre|clear hpre
  iterate 11
   ·exact fK
  ·exact iC
  ·exact io
  ·exact fK
 rintro L U W hL hφ hR;have e13:U 13=.string ⟨a.toArray⟩:=hφ 13 aL;simp only[e13];clear hφ;obtain⟨k,rfl⟩:=hR;clear hL;have HS3:=Aa (HS2.o.drew k);have Hg3:=Aa (Hg2.o.trans (Cs (below_drewN (At _ _) k) _));have hf1:=HS3.o.2.1.live 1;have q0:=HS3.o.1;have j2:=HS3.o.2.2.2.1;have j3:=HS3.o.2.2.2.2;go_wp2_with fail;refine(Hw2.o _ (HS3.o.setText r)).mono ?_;rintro e w4 ⟨rfl,hs4,hg4⟩;have HS4:=Aa hs4;have Hg4:=Aa ((Hg3.o.trans (Am _ _ _ _)).trans hg4);clear hg4 hs4 j2 j3 hf1 q0;have Hq4:=Aa (fun b3=>Hq.o _ _ b3 rfl rfl);generalize (Ay [39] r b1).getD r=t3 at *;generalize (Ay [39] r b1).isNone=b2 at *;have hf2:=HS4.o.2.1.live 2;have q0:=HS4.o.1;have k3:=HS4.o.2.2.2.2;by_cases hlen:a.length<=12
 ·have t1:decide ((12:Int)<(a.length:Int))=false:=aN;go_wp2_with fail;go_ret;obtain⟨h1,h2⟩:=Hq4.o b2 aN;exact⟨a,t3,b2,rfl,⟨HS4.o,Hg4.o⟩,h1,h2⟩
 have t1:decide ((12:Int)<(a.length:Int))=true:=aN;go_wp2_with fail;go_ret;obtain⟨h1,h2⟩:=Hq4.o true aN;exact⟨a,t3,true,rfl,⟨HS4.o.setBad true,Hg4.o.trans (Am _ _ _ _)⟩,h1,h2⟩
section
variable {P:Program}
theorem Az{fn:Func}{p:Tmp}{ty:TypeId}(h:fn.results=#[.cell p ty])(tmps:Array Value)(w:World)(b:Nat)(cs:List Value)(d:TypeDesc)
  (hp:tmps.getD p undef=b) (hc:w.rangeAt b 0 cs) (hu:P.underlying ty=some d) (hd:d.isRow=true) (hi:(P.info? ty).map (·.size)=some cs.length):
  (results fn tmps).run P w=.ok (.agg cs.toArray) w:=by
 have hp':tmps[p]?.getD undef=b:=eN;simp[results,h,hp',asAddr,run_loadVar_mid w b 0 ty cs d hc hu hd hi]
end
theorem Qad{w W:World}{row:Option Nat}{B o:Nat}(h:w.grownBy W row)(hB:w.heap.size<=B):∀(cs:List Value) (o:Nat),w.grownBy (W.setCells B o cs) row:=by
 intro cs;induction cs generalizing W with
 |nil=>intro o;exact h
 |cons v cs ih=>
  intro o;refine ih (W:=W.setCell ⟨B,o,none⟩ v) ⟨h.os,h.tape,h.output,by simpa using h.size,fun k hk hne=>?_⟩ (o+1);rw[Go.heap_setCell_other _ _ _ _ (show k≠B by omega)];exact h.block k hk hne
theorem De.trans{w w1 w2:World}{b:Nat}{p:Value}{t t':List UInt8}{x y:Bool}(h1:De w b p t x w1)(h2:De w1 b p t' y w2):De w b p t' y w2:=⟨h2.1,h1.2.trans h2.2⟩
theorem De.pre{w w1 w2:World}{b:Nat}{p:Value}{t:List UInt8}{x:Bool}(hb:Below w w w1)(h:De w1 b p t x w2):De w b p t x w2:=⟨h.1,(Cs hb _).trans h.2⟩
theorem De.post{w w1 w2:World}{b:Nat}{p:Value}{t:List UInt8}{x:Bool}(h:De w b p t x w1)(hb:Below w1 w1 w2):De w b p t x w2:=⟨h.1.grow hb,h.2.trans (Cs hb _)⟩
theorem De.set{w W:World}{b B:Nat}{p:Value}{t:List UInt8}{x:Bool}(h:De w b p t x W)(hB:w.heap.size<=B)(hne:B≠b)(cs:List Value):De w b p t x (W.setCells B 0 cs):=by
 obtain⟨⟨h0,h1,h2,h3,h4⟩,hg⟩:=h;have hk:(W.setCells B 0 cs).heap[b]?=W.heap[b]?:=(Jz B cs 0 W).block b h0 (by simpa using hne.symm);have hc:∀o,(W.setCells B 0 cs).cell? ⟨b,o,none⟩=W.cell? ⟨b,o,none⟩:=fun o=>World.cell?_of_block (a:=⟨b,o,none⟩) hk;obtain⟨c1,t1,e1⟩:=h1;exact⟨⟨by rw[C4];exact h0,⟨c1,t1,hk.trans e1⟩,(hc 0).trans h2,(hc 1).trans h3,(hc 2).trans h4⟩,Qad (o:=0) hg hB cs 0⟩
theorem De.env{w0 w w1:World}{b:Nat}{p:Value}{t:List UInt8}{x:Bool}(h:De w b p t x w1)(h0:Below w0 w0 w)(hb:w0.heap.size<=b):Below w0 w0 w1:=
 h0.grown h.2 h0.size fun k hk=>by injection hk with hk;omega
theorem Fb.set{P:Nat->Prop}{w:World}{v:Value}{ks:List Vl}(h:Fb P w v ks){B:Nat}(hB:¬P B)(cs:List Value):Fb P (w.setCells B 0 cs) v ks:=
 h.grown (Jz B cs 0 w) fun b hb e=>by injection e with e;subst e;exact hB hb
def Kc(w:World)(b:Nat)(p:Value)(t:List UInt8)(N:Nat)(r:Option (Vl × List UInt8))(e:Ending)(w':World):Prop:=
 ∃(v:Vl) (sl:Value) (t':List UInt8),e=.returned (Np v sl)/\Fb (fun b=>w.heap.size<=b) w' sl v.kids/\De w b p t' r.isNone w'/\(∀x,r=some x->v=x.1/\t'=x.2)/\Bd v/\t'.length<=t.length/\(Bh v).length+t'.length<=t.length+8*N
def Fq:Vl:=.mk 0 [] 0 []
theorem Eu{w:UInt8}{tx:List UInt8}{tg:Nat}(h1:tg<=1000000000)(h3:tx.length<=1000000):Bd (.mk w tx tg []):=.mk h1 f8 h3 aM
theorem Ye(k:Kd)(w:World)(c:UInt8)(t:List UInt8)(hs:k.signs=c::t)(hl:t.length<=1000):
  Calls prog 101 #[J2 k] w fun e w'=>e=.returned (J2 k.part)/\Below w w w':=by
 have hp:k.part=⟨t,k.base,k.name⟩:=by unfold Kd.part;rw[hs];rfl
 rw[hp];unfold J2;rw[hs];clear hp hs;go_enter func101,ntmps101;go_wp2_with fail;refine aF (v:=.agg ([t,k.base,k.name]:List Value).toArray) ?_ rfl ?_
 ·refine Az results101 _ _ (w.heap.size+1) _ _ rfl ?_ underlying62 rfl aP;intro j v hv;match j,hv with
  |0,hv=>simp at hv;subst hv;simp[go_sem]
  |1,hv=>simp at hv;subst hv;simp[go_sem]
  |2,hv=>simp at hv;subst hv;simp[go_sem]
  |n+3,hv=>simp at hv
 exact⟨rfl,((At _ _).alloc (Ao _) _).alloc aM _⟩
theorem Kl(c:UInt8)(s:List UInt8):(Cy c s).1.length<=s.length/\(Cy c s).2.1.length<=s.length:=by
 rcases E7 c s with⟨_,h⟩|⟨p,t,rfl,_,h⟩
 ·rw[h];simp
 rw[h];simp;omega
def Mk(st:UInt8)(ps:List (List UInt8))(vl:List UInt8)(td:Bool):Option Fd:=
 if st=69 then
  match J4 ps with
  |some (n,b)=>if td=true then none else some ⟨n,b,Kd.nil,vl⟩
  |none=>none
 else
  match Kv ps with
  |some (n,b,c)=>(match Ck c with
   |some k=>if td=true/\¬(st=82/\k.signs=[]/\Bx k.base vl=true)then none else some ⟨n,b,k,vl⟩
   |none=>none)
  |none=>none
theorem Ym(st:UInt8)(s:List UInt8):Gs st s=Mk st (Ag 58 (Cy 61 s).1) (Cy 61 s).2.1 (Cy 61 s).2.2:=rfl
theorem Vh{st:UInt8}{ps:List (List UInt8)}{vl:List UInt8}{td:Bool}(h:ps.length≠if st=69 then 2 else 3):Mk st ps vl td=none:=by
 unfold Mk;by_cases e:st=69
 ·rw[if_pos e]at h ⊢;match ps,h with
  |[],_=>rfl
  |[_],_=>rfl
  |[_,_],h=>exact absurd rfl h
  |_::_::_::_,_=>rfl
 rw[if_neg e]at h ⊢;match ps,h with
 |[],_=>rfl
 |[_],_=>rfl
 |[_,_],_=>rfl
 |[_,_,_],h=>exact absurd rfl h
 |_::_::_::_::_,_=>rfl
def Nf(a b:List UInt8)(n:Nat):Prop:=Ci a=some n/\1<=n/\n<=200/\Av b=true
theorem Sl{st:UInt8}{a b:List UInt8}{r:List (List UInt8)}{vl:List UInt8}{td:Bool}(h:∀n,¬Nf a b n):Mk st (a::b::r) vl td=none:=by
 have h2:∀c,J4 (a::b::c)=none:=by
  intro c;match c with
  |[]=>
   cases hd:Ci a with
   |none=>simp only[J4,hd]
   |some n=>simp only[J4,hd];exact if_neg fun(e:1<=n/\n<=200/\Av b=true)=>h n ⟨hd,e.1,e.2.1,e.2.2⟩
  |_::_=>rfl
 have h3:∀c,Kv (a::b::c)=none:=by
  intro c;match c with
  |[]=>rfl
  |[x]=>
   cases hd:Ci a with
   |none=>simp only[Kv,hd]
   |some n=>simp only[Kv,hd];exact if_neg fun(e:1<=n/\n<=200/\Av b=true)=>h n ⟨hd,e.1,e.2.1,e.2.2⟩
  |_::_::_=>rfl
 unfold Mk;rw[h2,h3];split<;>rfl
theorem Qgy{a b:List UInt8}{vl:List UInt8}{td:Bool}{n:Nat}(h:Nf a b n):Mk 69 [a,b] vl td=if td=true then none else some ⟨n,b,Kd.nil,vl⟩:=by
 obtain⟨h1,h2,h3,h4⟩:=h;unfold Mk J4;simp[h1,h2,h3,h4]
theorem Qho{st:UInt8}{a b c:List UInt8}{vl:List UInt8}{td:Bool}{n:Nat}(hst:st≠69)(h:Nf a b n):Mk st [a,b,c] vl td=(match Ck c with
   |some k=>if td=true/\¬(st=82/\k.signs=[]/\Bx k.base vl=true)then none else some ⟨n,b,k,vl⟩
   |none=>none):=by
 obtain⟨h1,h2,h3,h4⟩:=h;unfold Mk Kv;simp[h1,h2,h3,h4,hst]
theorem Qcb{k:Kd}(h:Zu k):Qi6 k.base:=by
 rcases h with⟨h,_⟩|⟨h|h|h,_⟩
 ·exact .inr (.inr (.inr h))
 ·exact .inl h
 ·exact .inr (.inl h)
 exact .inr (.inr (.inl h))
theorem Qjv{ps:List (List UInt8)}(h:ps.length=2):∃a b,ps=[a,b]:=by
 match ps,h with
 |[a,b],_=>exact⟨a,b,rfl⟩
theorem Qjn{ps:List (List UInt8)}(h:ps.length=3):∃a b c,ps=[a,b,c]:=by
 match ps,h with
 |[a,b,c],_=>exact⟨a,b,c,rfl⟩
theorem S1{w:World}{b o n:Nat}(h:w.there b o n)(k:Nat):(w.drewN k).there b o n:=by
 induction k generalizing w with
 |zero=>exact h
 |succ k ih=>exact ih aS
theorem Qhr(st:UInt8)(hst:st=69)(s:List UInt8)(w:World)(hs:s.length<=4000000):
  Calls prog 166 #[s,.int .u8 (st.toNat:Int)] w (Do (Gs st s) w):=by
 have HF:=Aa (Ym st s);have Hcut:=Aa (fun W=>Q9 s 61 W aH);have hcl:=(Kl 61 s).1;have hvl:=(Kl 61 s).2;generalize Cy 61 s=r at HF Hcut hcl hvl;obtain⟨hd,vl,td⟩:=r;simp only at hcl hvl HF;have Hsp:=Aa (fun W=>Rl hd 58 W aH);have hne:=D7 58 hd;have Hpl:=Aa (Ak 58 hd);generalize Ag 58 hd=ps at HF Hsp hne Hpl;have e69:((st.toNat:Int) == 69)=true:=Bq hst;have n69:((st.toNat:Int) != 69)=false:=Ky hst;have Hst0:=Aa hst;clear hst;go_enter func166,ntmps166;go_wp2_with fail;refine(Hcut.o _).mono ?_;rintro e w1 ⟨rfl,k1,rfl⟩;unfold Qb8;go_wp2_with fail;refine(Hsp.o _).mono ?_;rintro e w2 ⟨v,rfl,ho,hb⟩;obtain⟨g,c,rfl,hg1,hg2,hcells⟩:=My ho hne;have hzz:w.heap.size<w2.heap.size:=by have:=hb.size;simp at this;omega
 have HT:=@Aa (w2.there w 0 6) (Au (S1 (Ct w [.int .i64 0,aa,aa,aa,aa,aa] 105) k1) aM hb);have Hb:=@Aa (Below w w w2) ((below_drewN ((At w.heap.size w).alloc (Ao _) _) k1).trans (hb.mono aM));have Hcells:=Aa hcells;clear hb ho hcells hne;by_cases hlen:ps.length=2
 ·obtain⟨a,b,rfl⟩:=Qjv hlen;have c0:=Hcells.o 0 aM;have c1:=Hcells.o 1 aM;simp at c0 c1;have la:a.length<=4000000:=by have:=Hpl.o a aM;omega
  have lb:b.length<=4000000:=by have:=Hpl.o b aM;omega
  clear Hpl Hcells hlen;have hpn:=fun W=>(show Calls prog 175 #[a,.int .i64 200] W fun e w'=>e=.returned (pnV a 200)/\W=w' from Gm a 200 W aH aL)
  have Hhead:=@Aa (∀n,Nf a b n↔Ci a=some n/\1<=n/\n<=200/\Av b=true) (fun n=>Iff.rfl);have Hno:=Aa (fun(h:∀n,¬Nf a b n)=>HF.o.trans (Sl h));generalize hda:Ci a=od at *;have Hda:=Aa hda;clear hda;cases od with
  |none=>
   have Hpn:=Aa (fun W=>(Qh (m:=200) Hda.o) ▸ hpn W);clear hpn;go_wp2_with fail;refine(Hpn.o _).mono ?_;rintro e w3 ⟨rfl,rfl⟩;go_wp2_with ((with_reducible refine Ae (op:=⟨none,.store 105 _ _,_,_,_,none⟩) rfl 105 _ _ rfl w 0 [.int .i64 0,aa,aa,aa,aa,aa] ?_ ?_ ?_ ?_ ?_ ?_);rfl;rfl;(first|exact ar HT.o _|exact HT.o);kernel_rfl;(simp[Value.oneCell']);intro w9 HS9)
   have HZ:=@Aa (w9.rangeAt w 0 [.int .i64 0,aa,aa,aa,aa,aa]) bp;refine aF (v:=.tuple #[.agg ([.int .i64 0,aa,aa,aa,aa,aa]:List Value).toArray,.bool false]) ?_ rfl ?_
   ·exact fX
   exact jh
  |some n=>
   have Hpn:=Aa (fun W=>(Tg (m:=200) Hda.o) ▸ hpn W);clear hpn;have hn9:n<=999999:=(B0.1 Hda.o).1;rcases aG 200 n with h200|h200
   ·exact gi
   have Hdec:=Aa (show decide (n<=200)=true by simp;omega);rw[Hdec.o]at Hpn;rcases Nat.eq_zero_or_pos n with h0|h0
   ·exact gp
   have hlt1:decide ((n:Int)<1)=false:=dJ;have Hname:=Aa (fun W=>Kf b W aH);generalize hnb:Av b=nb at *;have Hnb:=Aa hnb;clear hnb;go_wp2_with fail;refine(Hpn.o _).mono ?_;rintro e w3 ⟨rfl,rfl⟩;go_wp2_with fail;refine(Hname.o _).mono ?_;rintro e w4 ⟨rfl,hb4⟩;have hz4:w2.heap.size<w4.heap.size:=fk;have HT4:=@Aa (w4.there w 0 6) (Au (ar HT.o _) aN hb4);have HR4:=@Aa (w4.rangeAt w2 0 [(n:Int),b,aa,aa,aa,vl]) (Ax (Cj w2 _ _) aM hb4);have HK4:=@Aa (w4.there w2 0 6) (Au (Ct w2 [(n:Int),b,aa,aa,aa,vl] _) aM hb4);have Hb4:=@Aa (Below w w w4) ((Hb.o.alloc Hb.o.size _).trans (hb4.mono aN));clear hb4;cases nb with
   |false=>
    go_wp2_with ((with_reducible refine Ae (op:=⟨none,.store 105 _ _,_,_,_,none⟩) rfl 105 _ _ rfl w 0 [.int .i64 0,aa,aa,aa,aa,aa] ?_ ?_ ?_ ?_ ?_ ?_);rfl;rfl;(first|exact ar HT4.o _|exact HT4.o);kernel_rfl;(simp[Value.oneCell']);intro w9 HS9)
    have HZ:=@Aa (w9.rangeAt w 0 [.int .i64 0,aa,aa,aa,aa,aa]) bV;refine aF (v:=.tuple #[.agg ([.int .i64 0,aa,aa,aa,aa,aa]:List Value).toArray,.bool false]) ?_ rfl ?_
    ·exact fX
    exact ji
   |true=>
    have Hok:=@Aa (Nf a b n) ((Hhead.o n).2 ⟨rfl,h0,h200,rfl⟩);have HF2:=Aa (HF.o.trans (show Mk st [a,b] vl td=if td=true then none else some ⟨n,b,Kd.nil,vl⟩from by rw[Hst0.o];exact Qgy Hok.o));clear Hno Hhead HF;have n82:((st.toNat:Int) != 82)=true:=N8 (c:=st) (d:=82) (by rw[Hst0.o];decide);cases td with
    |true=>
     go_wp2_with ((with_reducible refine Ae (op:=⟨none,.store 105 _ _,_,_,_,none⟩) rfl 105 _ _ rfl w 0 [.int .i64 0,aa,aa,aa,aa,aa] ?_ ?_ ?_ ?_ ?_ ?_);rfl;rfl;(first|exact ar HT4.o _|exact HT4.o);kernel_rfl;(simp[Value.oneCell']);intro w9 HS9)
     have HZ:=@Aa (w9.rangeAt w 0 [.int .i64 0,aa,aa,aa,aa,aa]) bV;refine aF (v:=.tuple #[.agg ([.int .i64 0,aa,aa,aa,aa,aa]:List Value).toArray,.bool false]) ?_ rfl ?_
     ·exact fX
     exact Do.no (HF2.o.trans aM) rfl bB
    |false=>
     go_wp2_with (first|((with_reducible refine Ae (op:=⟨none,.store 105 _ _,_,_,_,none⟩) rfl 105 _ _ rfl w 0 [(n:Int),b,aa,aa,aa,vl] ?_ ?_ ?_ ?_ ?_ ?_);rfl;rfl;(first|exact ar HT4.o _|exact HT4.o);kernel_rfl;(simp[Value.oneCell']);intro w9 HS9)|((with_reducible refine wpList_load_mid (op:=⟨_,.load 105 _,_,_,_,none⟩) rfl 105 _ rfl w2 0 ?_ [(n:Int),b,aa,aa,aa,vl] _ HR4.o underlying105 ?_ ?_ ?_);rfl;rfl;kernel_rfl))
     have HZ:=@Aa (w9.rangeAt w 0 [(n:Int),b,aa,aa,aa,vl]) bV;refine aF (v:=.tuple #[.agg ([(n:Int),b,aa,aa,aa,vl]:List Value).toArray,.bool true]) ?_ rfl ?_
     ·exact As results166 _ _ w.heap.size [(n:Int),b,aa,aa,aa,vl] _ _ rfl rfl HZ.o underlying105 rfl aP
     exact Do.yes (HF2.o.trans (if_neg (fun h=>by cases h))) rfl bB
 have Hno:=Aa (HF.o.trans (Vh (vl:=vl) (td:=td) (st:=st) (ps:=ps) (by rw[if_pos Hst0.o];exact hlen)));have hl1:¬(ps.length:Int)=2:=aH;have hl2:((ps.length:Int) != 2)=true:=by rw[bne_iff_ne];exact hl1
 clear HF Hpl Hcells;go_wp2_with ((with_reducible refine Ae (op:=⟨none,.store 105 _ _,_,_,_,none⟩) rfl 105 _ _ rfl w 0 [.int .i64 0,aa,aa,aa,aa,aa] ?_ ?_ ?_ ?_ ?_ ?_);rfl;rfl;(first|exact ar HT.o _|exact HT.o);kernel_rfl;(simp[Value.oneCell']);intro w9 HS9)
 have HZ:=@Aa (w9.rangeAt w 0 [.int .i64 0,aa,aa,aa,aa,aa]) bp;refine aF (v:=.tuple #[.agg ([.int .i64 0,aa,aa,aa,aa,aa]:List Value).toArray,.bool false]) ?_ rfl ?_
 ·exact fX
 exact Do.no Hno.o rfl aZ
theorem Qg6(st:UInt8)(hst:st≠69)(s:List UInt8)(w:World)(hs:s.length<=4000000):
  Calls prog 166 #[s,.int .u8 (st.toNat:Int)] w (Do (Gs st s) w):=by
 have HF:=Aa (Ym st s);have Hcut:=Aa (fun W=>Q9 s 61 W aH);have hcl:=(Kl 61 s).1;have hvl:=(Kl 61 s).2;generalize Cy 61 s=r at HF Hcut hcl hvl;obtain⟨hd,vl,td⟩:=r;simp only at hcl hvl HF;have Hsp:=Aa (fun W=>Rl hd 58 W aH);have hne:=D7 58 hd;have Hpl:=Aa (Ak 58 hd);generalize Ag 58 hd=ps at HF Hsp hne Hpl;have e69:((st.toNat:Int) == 69)=false:=Aq hst;have n69:((st.toNat:Int) != 69)=true:=N8 hst;have Hst0:=Aa hst;clear hst;go_enter func166,ntmps166;go_wp2_with fail;refine(Hcut.o _).mono ?_;rintro e w1 ⟨rfl,k1,rfl⟩;unfold Qb8;go_wp2_with fail;refine(Hsp.o _).mono ?_;rintro e w2 ⟨v,rfl,ho,hb⟩;obtain⟨g,c,rfl,hg1,hg2,hcells⟩:=My ho hne;have hzz:w.heap.size<w2.heap.size:=by have:=hb.size;simp at this;omega
 have HT:=@Aa (w2.there w 0 6) (Au (S1 (Ct w [.int .i64 0,aa,aa,aa,aa,aa] 105) k1) aM hb);have Hb:=@Aa (Below w w w2) ((below_drewN ((At w.heap.size w).alloc (Ao _) _) k1).trans (hb.mono aM));have Hcells:=Aa hcells;clear hb ho hcells hne;by_cases hlen:ps.length=3
 ·obtain⟨a,b,d,rfl⟩:=Qjn hlen;have c0:=Hcells.o 0 aM;have c1:=Hcells.o 1 aM;have c2:=Hcells.o 2 aM;simp at c0 c1 c2;have la:a.length<=4000000:=by have:=Hpl.o a aM;omega
  have lb:b.length<=4000000:=by have:=Hpl.o b aM;omega
  have ld:d.length<=4000000:=by have:=Hpl.o d aM;omega
  clear Hpl Hcells hlen;have hpn:=fun W=>(show Calls prog 175 #[a,.int .i64 200] W fun e w'=>e=.returned (pnV a 200)/\W=w' from Gm a 200 W aH aL)
  have Hhead:=@Aa (∀n,Nf a b n↔Ci a=some n/\1<=n/\n<=200/\Av b=true) (fun n=>Iff.rfl);have Hno:=Aa (fun(h:∀n,¬Nf a b n)=>HF.o.trans (Sl h));generalize hda:Ci a=od at *;have Hda:=Aa hda;clear hda;cases od with
  |none=>
   have Hpn:=Aa (fun W=>(Qh (m:=200) Hda.o) ▸ hpn W);clear hpn;go_wp2_with fail;refine(Hpn.o _).mono ?_;rintro e w3 ⟨rfl,rfl⟩;go_wp2_with ((with_reducible refine Ae (op:=⟨none,.store 105 _ _,_,_,_,none⟩) rfl 105 _ _ rfl w 0 [.int .i64 0,aa,aa,aa,aa,aa] ?_ ?_ ?_ ?_ ?_ ?_);rfl;rfl;(first|exact ar HT.o _|exact HT.o);kernel_rfl;(simp[Value.oneCell']);intro w9 HS9)
   have HZ:=@Aa (w9.rangeAt w 0 [.int .i64 0,aa,aa,aa,aa,aa]) bp;refine aF (v:=.tuple #[.agg ([.int .i64 0,aa,aa,aa,aa,aa]:List Value).toArray,.bool false]) ?_ rfl ?_
   ·exact fX
   exact jh
  |some n=>
   have Hpn:=Aa (fun W=>(Tg (m:=200) Hda.o) ▸ hpn W);clear hpn;have hn9:n<=999999:=(B0.1 Hda.o).1;rcases aG 200 n with h200|h200
   ·exact gi
   have Hdec:=Aa (show decide (n<=200)=true by simp;omega);rw[Hdec.o]at Hpn;rcases Nat.eq_zero_or_pos n with h0|h0
   ·exact gp
   have hlt1:decide ((n:Int)<1)=false:=dJ;have Hname:=Aa (fun W=>Kf b W aH);generalize hnb:Av b=nb at *;have Hnb:=Aa hnb;clear hnb;go_wp2_with fail;refine(Hpn.o _).mono ?_;rintro e w3 ⟨rfl,rfl⟩;go_wp2_with fail;refine(Hname.o _).mono ?_;rintro e w4 ⟨rfl,hb4⟩;have hz4:w2.heap.size<w4.heap.size:=fk;have HT4:=@Aa (w4.there w 0 6) (Au (ar HT.o _) aN hb4);have HR4:=@Aa (w4.rangeAt w2 0 [(n:Int),b,aa,aa,aa,vl]) (Ax (Cj w2 _ _) aM hb4);have HK4:=@Aa (w4.there w2 0 6) (Au (Ct w2 [(n:Int),b,aa,aa,aa,vl] _) aM hb4);have Hb4:=@Aa (Below w w w4) ((Hb.o.alloc Hb.o.size _).trans (hb4.mono aN));have c2x:w4.cell? (g,2)=d:=(hb4.cell (p:=⟨g,2,none⟩) aN).trans (by rw[World.cell?_alloc_old _ _ _ aN];exact c2);clear hb4;cases nb with
   |false=>
    go_wp2_with ((with_reducible refine Ae (op:=⟨none,.store 105 _ _,_,_,_,none⟩) rfl 105 _ _ rfl w 0 [.int .i64 0,aa,aa,aa,aa,aa] ?_ ?_ ?_ ?_ ?_ ?_);rfl;rfl;(first|exact ar HT4.o _|exact HT4.o);kernel_rfl;(simp[Value.oneCell']);intro w9 HS9)
    have HZ:=@Aa (w9.rangeAt w 0 [.int .i64 0,aa,aa,aa,aa,aa]) bV;refine aF (v:=.tuple #[.agg ([.int .i64 0,aa,aa,aa,aa,aa]:List Value).toArray,.bool false]) ?_ rfl ?_
    ·exact fX
    exact ji
   |true=>
    have Hok:=@Aa (Nf a b n) ((Hhead.o n).2 ⟨rfl,h0,h200,rfl⟩);have HF2:=Aa (HF.o.trans (Qho (c:=d) (vl:=vl) (td:=td) Hst0.o Hok.o));clear Hno Hhead HF;have Hkd:=Aa (fun W=>Q5 d W ld);have Hkok:=Aa (fun k (h:Ck d=some k)=>(En.1 h).1);generalize Ck d=ok at HF2 Hkd Hkok;go_wp2_with fail;refine(Hkd.o _).mono ?_;rintro e w5 ⟨hcase,hb5⟩;have HT5:=@Aa (w5.there w 0 6) (Au HT4.o aH hb5);have HR5:=@Aa (w5.rangeAt w2 0 _) (Ax HR4.o hz4 hb5);have HK5:=@Aa (w5.there w2 0 6) (Au HK4.o hz4 hb5);have Hb5:=Aa (Hb4.o.trans (hb5.mono Hb4.o.size));have hz5:w2.heap.size<w5.heap.size:=ad hz4 hb5.size;clear hb5;cases ok with
    |none=>
     obtain⟨a1,a2,a3,rfl⟩:=hcase;go_wp2_with (first|((with_reducible refine Ae (op:=⟨none,.store 62 _ _,_,_,_,none⟩) rfl 62 _ _ rfl w2 2 [.string a1,.string a2,.string a3] ?_ ?_ ?_ ?_ ?_ ?_);rfl;rfl;(exact J9 HK5.o 2 3 aL aL);kernel_rfl;(simp[Value.oneCell']);intro w6 HS6;have HT6:=@Aa (w6.there w 0 6) (HS6.o ▸ aj HT5.o _ _ _);have HR6:=@Aa (w6.rangeAt w2 0 [(n:Int),b,.string a1,.string a2,.string a3,vl]) (HS6.o ▸ Cx [(n:Int),b] [aa,aa,aa] [vl] [.string a1,.string a2,.string a3] HR5.o rfl);have Hb6:=@Aa (Below w w w6) (HS6.o ▸ Aj _ (Nat.le_of_lt hzz) _ _ _ Hb5.o);have hz6:w2.heap.size<w6.heap.size:=dc;have z2:w6.cell? (w2,2)=some (.string a1):=cN;have z3:w6.cell? (w2,3)=some (.string a2):=cO;clear HT5 HR5 HK5 HS6)|((with_reducible refine Ae (op:=⟨none,.store 105 _ _,_,_,_,none⟩) rfl 105 _ _ rfl w 0 [.int .i64 0,aa,aa,aa,aa,aa] ?_ ?_ ?_ ?_ ?_ ?_);rfl;rfl;(first|exact ar HT6.o _|exact HT6.o);kernel_rfl;(simp[Value.oneCell']);intro w9 HS9))
     have HZ:=@Aa (w9.rangeAt w 0 [.int .i64 0,aa,aa,aa,aa,aa]) bW;refine aF (v:=.tuple #[.agg ([.int .i64 0,aa,aa,aa,aa,aa]:List Value).toArray,.bool false]) ?_ rfl ?_
     ·exact fX
     exact Do.no HF2.o rfl bC
    |some k=>
     have hcase':e=.returned (.tuple #[.agg #[k.signs,k.base,k.name],.bool true]):=hcase;subst hcase';clear hcase;have Hkk:=Aa (Hkok.o k rfl);have HF3:=@Aa (Gs st s=if td=true/\¬(st=82/\k.signs=[]/\Bx k.base vl=true)then none else some ⟨n,b,k,vl⟩) HF2.o;clear HF2 Hkok;cases td with
     |false=>
      go_wp2_with (first|((with_reducible refine Ae (op:=⟨none,.store 62 _ _,_,_,_,none⟩) rfl 62 _ _ rfl w2 2 [k.signs,k.base,k.name] ?_ ?_ ?_ ?_ ?_ ?_);rfl;rfl;(exact J9 HK5.o 2 3 aL aL);kernel_rfl;(simp[Value.oneCell']);intro w6 HS6;have HT6:=@Aa (w6.there w 0 6) (HS6.o ▸ aj HT5.o _ _ _);have HR6:=@Aa (w6.rangeAt w2 0 [(n:Int),b,k.signs,k.base,k.name,vl]) (HS6.o ▸ Cx [(n:Int),b] [aa,aa,aa] [vl] [k.signs,k.base,k.name] HR5.o rfl);have Hb6:=@Aa (Below w w w6) (HS6.o ▸ Aj _ (Nat.le_of_lt hzz) _ _ _ Hb5.o);have hz6:w2.heap.size<w6.heap.size:=dc;have z2:w6.cell? (w2,2)=k.signs:=cN;have z3:w6.cell? (w2,3)=k.base:=cO;clear HT5 HR5 HK5 HS6)|((with_reducible refine Ae (op:=⟨none,.store 105 _ _,_,_,_,none⟩) rfl 105 _ _ rfl w 0 [(n:Int),b,k.signs,k.base,k.name,vl] ?_ ?_ ?_ ?_ ?_ ?_);rfl;rfl;(first|exact ar HT6.o _|exact HT6.o);kernel_rfl;(simp[Value.oneCell']);intro w9 HS9)|((with_reducible refine wpList_load_mid (op:=⟨_,.load 105 _,_,_,_,none⟩) rfl 105 _ rfl w2 0 ?_ [(n:Int),b,k.signs,k.base,k.name,vl] _ HR6.o underlying105 ?_ ?_ ?_);rfl;rfl;kernel_rfl))
      have HZ:=@Aa (w9.rangeAt w 0 [(n:Int),b,k.signs,k.base,k.name,vl]) bW;refine aF (v:=.tuple #[.agg ([(n:Int),b,k.signs,k.base,k.name,vl]:List Value).toArray,.bool true]) ?_ rfl ?_
      ·exact ia
      exact Do.yes (HF3.o.trans (if_neg aM)) rfl bC
     |true=>
      rcases Decidable.em (st=82)with h82|h82
      ·have n82:((st.toNat:Int) != 82)=false:=Ky (c:=st) (d:=82) h82;rcases Decidable.em (k.signs=[])with hsg|hsg
       ·have hsg1:(k.signs != [])=false:=cG;have hsg2:k.signs.isEmpty=true:=cG;have hsg3:(!k.signs.isEmpty)=false:=cG;have hbl:=Qcb Hkk.o.2.1;have Hst:=Aa (fun W=>Y6 k.base vl W hbl aH)
        have Hst2:=Aa (show Gs st s=if Bx k.base vl=true then some ⟨n,b,k,vl⟩else none from by
         rw[HF3.o];by_cases hh:Bx k.base vl=true
         ·rw[if_neg (by simp[h82,hsg,hh]),if_pos hh]
         rw[if_pos (by simp[hh]),if_neg hh])
        generalize Bx k.base vl=sb at Hst Hst2;clear hsg h82 hbl;go_wp2_with ((with_reducible refine Ae (op:=⟨none,.store 62 _ _,_,_,_,none⟩) rfl 62 _ _ rfl w2 2 [k.signs,k.base,k.name] ?_ ?_ ?_ ?_ ?_ ?_);rfl;rfl;(exact J9 HK5.o 2 3 aL aL);kernel_rfl;(simp[Value.oneCell']);intro w6 HS6;have HT6:=@Aa (w6.there w 0 6) (HS6.o ▸ aj HT5.o _ _ _);have HR6:=@Aa (w6.rangeAt w2 0 [(n:Int),b,k.signs,k.base,k.name,vl]) (HS6.o ▸ Cx [(n:Int),b] [aa,aa,aa] [vl] [k.signs,k.base,k.name] HR5.o rfl);have Hb6:=@Aa (Below w w w6) (HS6.o ▸ Aj _ (Nat.le_of_lt hzz) _ _ _ Hb5.o);have hz6:w2.heap.size<w6.heap.size:=dc;have z2:w6.cell? (w2,2)=k.signs:=cN;have z3:w6.cell? (w2,3)=k.base:=cO;clear HT5 HR5 HK5 HS6)
        refine(Hst.o _).mono ?_;rintro e w7 ⟨rfl,hb7⟩;have HT7:=@Aa (w7.there w 0 6) (Au HT6.o aH hb7);have HR7:=@Aa (w7.rangeAt w2 0 _) (Ax HR6.o hz6 hb7);have Hb7:=Aa (Hb6.o.trans (hb7.mono Hb6.o.size));clear hb7 z2 z3;cases sb with
        |true=>
         go_wp2_with (first|((with_reducible refine Ae (op:=⟨none,.store 105 _ _,_,_,_,none⟩) rfl 105 _ _ rfl w 0 [(n:Int),b,k.signs,k.base,k.name,vl] ?_ ?_ ?_ ?_ ?_ ?_);rfl;rfl;(first|exact ar HT7.o _|exact HT7.o);kernel_rfl;(simp[Value.oneCell']);intro w9 HS9)|((with_reducible refine wpList_load_mid (op:=⟨_,.load 105 _,_,_,_,none⟩) rfl 105 _ rfl w2 0 ?_ [(n:Int),b,k.signs,k.base,k.name,vl] _ HR7.o underlying105 ?_ ?_ ?_);rfl;rfl;kernel_rfl))
         have HZ:=@Aa (w9.rangeAt w 0 [(n:Int),b,k.signs,k.base,k.name,vl]) dO;refine aF (v:=.tuple #[.agg ([(n:Int),b,k.signs,k.base,k.name,vl]:List Value).toArray,.bool true]) ?_ rfl ?_
         ·exact ia
         exact Do.yes (Hst2.o.trans (if_pos aM)) rfl d9
        |false=>
         go_wp2_with ((with_reducible refine Ae (op:=⟨none,.store 105 _ _,_,_,_,none⟩) rfl 105 _ _ rfl w 0 [.int .i64 0,aa,aa,aa,aa,aa] ?_ ?_ ?_ ?_ ?_ ?_);rfl;rfl;(first|exact ar HT7.o _|exact HT7.o);kernel_rfl;(simp[Value.oneCell']);intro w9 HS9)
         have HZ:=@Aa (w9.rangeAt w 0 [.int .i64 0,aa,aa,aa,aa,aa]) dO;refine aF (v:=.tuple #[.agg ([.int .i64 0,aa,aa,aa,aa,aa]:List Value).toArray,.bool false]) ?_ rfl ?_
         ·exact fX
         exact Do.no (Hst2.o.trans (if_neg aL)) rfl d9
       have hsg1:(k.signs != [])=true:=cG;have hsg2:k.signs.isEmpty=false:=cG;have hsg3:(!k.signs.isEmpty)=true:=cG;have Hw:=Aa (HF3.o.trans (if_pos ⟨rfl,fun h=>hsg h.2.1⟩));clear hsg h82;go_wp2_with (first|((with_reducible refine Ae (op:=⟨none,.store 62 _ _,_,_,_,none⟩) rfl 62 _ _ rfl w2 2 [k.signs,k.base,k.name] ?_ ?_ ?_ ?_ ?_ ?_);rfl;rfl;(exact J9 HK5.o 2 3 aL aL);kernel_rfl;(simp[Value.oneCell']);intro w6 HS6;have HT6:=@Aa (w6.there w 0 6) (HS6.o ▸ aj HT5.o _ _ _);have HR6:=@Aa (w6.rangeAt w2 0 [(n:Int),b,k.signs,k.base,k.name,vl]) (HS6.o ▸ Cx [(n:Int),b] [aa,aa,aa] [vl] [k.signs,k.base,k.name] HR5.o rfl);have Hb6:=@Aa (Below w w w6) (HS6.o ▸ Aj _ (Nat.le_of_lt hzz) _ _ _ Hb5.o);have hz6:w2.heap.size<w6.heap.size:=dc;have z2:w6.cell? (w2,2)=k.signs:=cN;have z3:w6.cell? (w2,3)=k.base:=cO;clear HT5 HR5 HK5 HS6)|((with_reducible refine Ae (op:=⟨none,.store 105 _ _,_,_,_,none⟩) rfl 105 _ _ rfl w 0 [.int .i64 0,aa,aa,aa,aa,aa] ?_ ?_ ?_ ?_ ?_ ?_);rfl;rfl;(first|exact ar HT6.o _|exact HT6.o);kernel_rfl;(simp[Value.oneCell']);intro w9 HS9))
       have HZ:=@Aa (w9.rangeAt w 0 [.int .i64 0,aa,aa,aa,aa,aa]) bW;refine aF (v:=.tuple #[.agg ([.int .i64 0,aa,aa,aa,aa,aa]:List Value).toArray,.bool false]) ?_ rfl ?_
       ·exact fX
       exact Do.no Hw.o rfl bC
      have n82:((st.toNat:Int) != 82)=true:=N8 (c:=st) (d:=82) h82;have Hw:=Aa (HF3.o.trans (if_pos ⟨rfl,fun h=>h82 h.1⟩));clear h82;go_wp2_with (first|((with_reducible refine Ae (op:=⟨none,.store 62 _ _,_,_,_,none⟩) rfl 62 _ _ rfl w2 2 [k.signs,k.base,k.name] ?_ ?_ ?_ ?_ ?_ ?_);rfl;rfl;(exact J9 HK5.o 2 3 aL aL);kernel_rfl;(simp[Value.oneCell']);intro w6 HS6;have HT6:=@Aa (w6.there w 0 6) (HS6.o ▸ aj HT5.o _ _ _);have HR6:=@Aa (w6.rangeAt w2 0 [(n:Int),b,k.signs,k.base,k.name,vl]) (HS6.o ▸ Cx [(n:Int),b] [aa,aa,aa] [vl] [k.signs,k.base,k.name] HR5.o rfl);have Hb6:=@Aa (Below w w w6) (HS6.o ▸ Aj _ (Nat.le_of_lt hzz) _ _ _ Hb5.o);have hz6:w2.heap.size<w6.heap.size:=dc;have z2:w6.cell? (w2,2)=k.signs:=cN;have z3:w6.cell? (w2,3)=k.base:=cO;clear HT5 HR5 HK5 HS6)|((with_reducible refine Ae (op:=⟨none,.store 105 _ _,_,_,_,none⟩) rfl 105 _ _ rfl w 0 [.int .i64 0,aa,aa,aa,aa,aa] ?_ ?_ ?_ ?_ ?_ ?_);rfl;rfl;(first|exact ar HT6.o _|exact HT6.o);kernel_rfl;(simp[Value.oneCell']);intro w9 HS9))
      have HZ:=@Aa (w9.rangeAt w 0 [.int .i64 0,aa,aa,aa,aa,aa]) bW;refine aF (v:=.tuple #[.agg ([.int .i64 0,aa,aa,aa,aa,aa]:List Value).toArray,.bool false]) ?_ rfl ?_
      ·exact fX
      exact Do.no Hw.o rfl bC
 have Hno:=Aa (HF.o.trans (Vh (vl:=vl) (td:=td) (st:=st) (ps:=ps) (by rw[if_neg Hst0.o];exact hlen)));have hl1:¬(ps.length:Int)=3:=aH;have hl2:((ps.length:Int) != 3)=true:=by rw[bne_iff_ne];exact hl1
 clear HF Hpl Hcells;go_wp2_with ((with_reducible refine Ae (op:=⟨none,.store 105 _ _,_,_,_,none⟩) rfl 105 _ _ rfl w 0 [.int .i64 0,aa,aa,aa,aa,aa] ?_ ?_ ?_ ?_ ?_ ?_);rfl;rfl;(first|exact ar HT.o _|exact HT.o);kernel_rfl;(simp[Value.oneCell']);intro w9 HS9)
 have HZ:=@Aa (w9.rangeAt w 0 [.int .i64 0,aa,aa,aa,aa,aa]) bp;refine aF (v:=.tuple #[.agg ([.int .i64 0,aa,aa,aa,aa,aa]:List Value).toArray,.bool false]) ?_ rfl ?_
 ·exact fX
 exact Do.no Hno.o rfl aZ
theorem Xk(st:UInt8)(hst:Ds st)(s:List UInt8)(w:World)(hs:s.length<=4000000):
  Calls prog 166 #[s,.int .u8 (st.toNat:Int)] w (Do (Gs st s) w):=by
 by_cases h:st=69
 ·exact Qhr st h s w hs
 exact Qg6 st h s w hs
def Es(o:Option Ty)(w:World)(e:Ending)(w':World):Prop:=
 (match o with
  |some t=>∃x:PT,x.ty=t/\e=.returned (.tuple #[x.ptr,.bool true])/\w.heap.size<=x.blk/\Rg w' x/\∀k,x.fv.ownBlock=some k->w.heap.size<=k
  |none=>∃p:Option Addr,e=.returned (.tuple #[.pointer p,.bool false]))/\Below w w w'
theorem Es.no{w w':World}{e:Ending}{o:Option Ty}(ho:o=none){p:Option Addr}(he:e=.returned (.tuple #[.pointer p,.bool false]))(hb:Below w w w'):Es o w e w':=by
 rw[ho];exact⟨⟨p,he⟩,hb⟩
theorem Es.yes{w w':World}{e:Ending}{o:Option Ty}{t:Ty}(ho:o=some t){b:Nat}{fv:Value}(he:e=.returned (.tuple #[b,.bool true]))(hwb:w.heap.size<=b)(ht:Rg w' ⟨t,b,fv⟩)(hf:∀k,fv.ownBlock=some k->w.heap.size<=k)(hb:Below w w w'):Es o w e w':=by
 rw[ho];exact⟨⟨⟨t,b,fv⟩,rfl,he,hwb,ht,hf⟩,hb⟩
theorem To(c:UInt8):decide (c∈([82,85,69]:List UInt8))=decide (Ds c):=by
 rw[decide_eq_decide];unfold Ds;simp
theorem Qfe(w:World):Calls prog 135 #[aa] w (Es (Eh []) w):=by
 go_enter func135,ntmps135;go_wp2_with fail;go_ret2;exact Es.no rfl rfl (At _ _)
theorem Qcv(c:UInt8)(r:List UInt8)(w:World)(hs:r.length<=3999999)(hc:¬Ds c):Calls prog 135 #[.string ⟨(c::r).toArray⟩] w (Es (Eh (c::r)) w):=by
 have HF:=Aa (show Eh (c::r)=none by unfold Eh;simp only;rw[if_pos (.inl hc)])
 have Hc:=Aa (fun W=>(show Calls prog 164 #[.string ⟨#[82,85,69]⟩,.string ⟨#[c]⟩] W fun e w'=>e=.returned (.bool false)/\W=w' from by
  have:=Nj [82,85,69] c W;rw[To,aC hc]at this;exact this))
 clear hc;go_enter func135,ntmps135;go_wp2_with fail;refine(Hc.o _).mono ?_;rintro e w' ⟨rfl,rfl⟩;go_wp2_with fail;go_ret2;exact Es.no HF.o rfl (At _ _)
theorem Qcm(c:UInt8)(r:List UInt8)(w:World)(hs:r.length<=3999999)(hc:Ds c)(h:(Cy 61 r).2.2=false\/Av (Cy 61 r).1=false\/(Cy 61 r).2.1=[]):Calls prog 135 #[.string ⟨(c::r).toArray⟩] w (Es (Eh (c::r)) w):=by
 have HF:=Aa (show Eh (c::r)=if (Cy 61 r).2.2=false\/Av (Cy 61 r).1=false then none else(if c=82 then some ⟨c,(Cy 61 r).1,[]⟩else none)by
  unfold Eh;simp only;by_cases h1:(Cy 61 r).2.2=false\/Av (Cy 61 r).1=false
  ·rw[if_pos (.inr h1),if_pos h1]
  have h2:(Cy 61 r).2.1=[]:=by
   rcases h with h|h|h
   ·exact absurd (.inl h) h1
   ·exact absurd (.inr h) h1
   exact h
  rw[if_neg (fun h3=>h3.elim (fun h3=>h3 hc) h1),if_neg h1,if_pos h2])
 have Hc:=Aa (fun W=>(show Calls prog 164 #[.string ⟨#[82,85,69]⟩,.string ⟨#[c]⟩] W fun e w'=>e=.returned (.bool true)/\W=w' from by
  have:=Nj [82,85,69] c W;rw[To,aD hc]at this;exact this))
 have Hl:=Aa (fun(f:(Cy 61 r).2.2=true/\(Cy 61 r).2.1=[])=>show Yw ⟨c,(Cy 61 r).1,[]⟩=c::r from by
  rcases E7 61 r with⟨_,e⟩|⟨p,t,e1,_,e⟩
  ·rw[e]at f;cases f.1
  rw[e]at f ⊢;simp only at f;have:=f.2;subst this;rw[e1];rfl)
 have Hcut:=Aa (fun W=>Q9 r 61 W aH);have hcl:=(Kl 61 r).1;generalize Cy 61 r=q at *;obtain⟨nm,rest,told⟩:=q;simp only at hcl HF h Hl;have Hh:=Aa h;have Hc82:=Aa hc;clear hc h;go_enter func135,ntmps135;go_wp2_with fail;refine(Hc.o _).mono ?_;rintro e w' ⟨rfl,rfl⟩;go_wp2_with fail;refine(Hcut.o _).mono ?_;rintro e w1 ⟨rfl,k1,rfl⟩;unfold Qb8;cases told with
 |false=>
  go_wp2_with fail;go_ret2;exact Es.no (HF.o.trans (if_pos aM)) rfl (below_drewN (At _ _) _)
 |true=>
  have Hname:=Aa (fun W=>Kf nm W aH);generalize hnb:Av nm=nb at *;have Hnb:=Aa hnb;clear hnb;go_wp2_with fail;refine(Hname.o _).mono ?_;rintro e w2 ⟨rfl,hb2⟩;have Hb2:=@Aa (Below w w w2) ((below_drewN (At _ _) k1).trans (by simpa using hb2));clear hb2;cases nb with
  |false=>
   go_wp2_with fail;go_ret2;exact Es.no (HF.o.trans (if_pos aM)) rfl Hb2.o
  |true=>
   obtain rfl:rest=[]:=by
    rcases Hh.o with h|h|h
    ·cases h
    ·cases h
    exact h
   have HF2:=Aa (HF.o.trans (if_neg aM));have Hl2:=Aa (Hl.o aM);have hz:=Hb2.o.size;rcases Decidable.em (c=82)with h82|h82
   ·have t1:((c.toNat:Int) == 82)=true:=Bq (d:=82) h82;have HF3:=Aa (HF2.o.trans (if_pos h82));clear h82;go_wp2_with fail;go_quiet (fail)
    go_wp2_with fail;go_ret2;refine Es.yes HF3.o (b:=w2.heap.size) (fv:=.slice none 0 0) rfl Hb2.o.size ?_ (fun k hk=>by simp[Value.ownBlock]at hk) dg;refine⟨by simp,by first|exact Qb.new _ _ _|exact Qb.belowAt (Qb.new w2 _ _) aM (by first|exact below_drewN (At _ _) _|exact(At _ _).drew),by simp,by simp,by simp,?_,none,0,rfl,by simp,rfl,ah _,fun h=>absurd h aM⟩;rw[Hl2.o];simp
   have t1:((c.toNat:Int) == 82)=false:=Aq (d:=82) h82;have HF3:=Aa (HF2.o.trans (if_neg h82));clear h82;go_wp2_with fail;go_quiet (fail)
   go_wp2_with fail;go_ret2;exact Es.no HF3.o rfl dg
def Qim(c:UInt8)(nm:List UInt8):Option (List Fd)->Option Ty
 |some r=>some ⟨c,nm,r⟩
 |none=>none
theorem Zx{c:UInt8}{r nm rest:List UInt8}(hc:Ds c)(h:Cy 61 r=(nm,rest,true))(hn:Av nm=true)(hr:rest≠[]):Eh (c::r)=Qim c nm (E3 c (Ag 44 rest) []):=by
 unfold Eh;simp only[h];rw[if_neg (by simp[hc,hn]),if_neg hr];cases E3 c (Ag 44 rest) []<;>rfl
theorem Yy{c:UInt8}{ps:List (List UInt8)}{acc:List Fd}{k:Nat}(hk:k<ps.length):E3 c (ps.drop k) acc=(match Gs c ps[k]with|none=>none|some f=>if acc.length=8\/Fk acc f=false then none else E3 c (ps.drop (k+1)) (acc++[f])):=by
 rw[List.drop_eq_getElem_cons hk,E3];cases Gs c ps[k]<;>rfl
theorem Qde{acc:List Fd}{f:Fd}(h:∀g∈acc,g.name≠f.name/\g.tag<f.tag):Fk acc f=true:=Kq.2 h
theorem Qa0{acc:List Fd}{f x:Fd}(hx:x∈acc)(h:f.tag<=x.tag\/x.name=f.name):Fk acc f=false:=by
 cases hh:Fk acc f with
 |false=>rfl
 |true=>
  obtain⟨h1,h2⟩:=Kq.1 hh x hx;rcases h with h|h
  ·omega
  exact absurd h h1
theorem Pq(w:World)(a:Addr)(v:Value):w.grownBy (w.setCell a v) (some a.block):=
 ⟨rfl,rfl,rfl,by simp,fun k _ hk=>Go.heap_setCell_other _ _ _ _ (fun e=>hk (by rw[e]))⟩
theorem Ys{w:World}{base k n:Nat}{e:TypeId}{v:Value}{xs:List Value}(h:w.ownsRow base e k v n xs):∃A m c,v=.slice A m c:=by
 rcases h.2 with⟨rfl,_⟩|⟨g,cap,cur,rfl,_⟩
 ·exact⟨_,_,_,rfl⟩
 exact⟨_,_,_,rfl⟩
theorem Tryz.infoIf:(prog.info? 105).map (fun i=>(i.zero,i.size,i.bytes))=some (some (.agg #[.int .i64 0,aa,aa,aa,aa,aa]),6,88):=aP
theorem Qia(fs:List Fd):∀y∈fs.flatMap S5,y.oneCell'=true:=by
 intro y hy;obtain⟨f,_,hf⟩:=List.mem_flatMap.1 hy;simp[S5]at hf;rcases hf with rfl|rfl|rfl|rfl|rfl|rfl<;>rfl
end
end Go.Proofs.YtpjijpcemejlnaaGreatDoor
