/- Texts joined. Conditions: as each theorem names them. -/
import Derived.Deep.CutRange
import Derived.Deep.DeepCutAuto
import Derived.Test.YtmmhmlmfhpfgbaaGreatDoorRows
import Derived.ProofKit
import Derived.OpenShut
import Derived.ShutString
import Derived.ChangeOld
import Derived.SliceStrings
import Derived.Test.YtmmhmlmfhpfgbaaGreatDoorF44
set_option maxRecDepth 100000
set_option maxHeartbeats 32000000
set_option linter.unusedVariables false
set_option linter.unusedSimpArgs false
namespace Go.Proofs.YtmmhmlmfhpfgbaaGreatDoor
open Go.RowKit Go.Proofs.Tryz
section
attribute [local go_sem] Qoe Qnf Qmu Qk2 ByteArray.mk_append_mk
def Qk7(o:Option (List Ty × Ty))(w:World)(e:Ending)(w':World):Prop:=
 (match o with
  |none=>e=.returned (.tuple #[.slice none 0 0,.bool false])
  |some y=>∃A c,e=.returned (.tuple #[.slice A y.2.fields.length c,.bool true])/\B0 w' A y.2.fields.length (De (y.2.fields.map (·.tag))))/\Below w.heap.size w w'
theorem Xp(s n:List UInt8)(w:World)(hs:s.length<=4000000)(hn:n.length<=4000000):
  Calls prog 18 #[.string ⟨s.toArray⟩,.string ⟨n.toArray⟩] w (Qk7 (tyN s n) w):=by
 have HN:=Aa (fun W=>Q7 s n W hs hn)
 generalize tyN s n=o at *
 go_enter func18,ntmps18
 go_wp2_with fail
 refine(HN.o _).mono ?_
 rintro e w1 ⟨hm,hb1⟩
 have Hb1:=Aa hb1
 clear hb1
 cases o with
 |none=>
  obtain rfl:=hm
  go_wp2_with fail
  go_ret2
  exact⟨rfl,Hb1.o⟩
 |some y=>
  obtain⟨S,t⟩:=y
  obtain⟨p,xs,x,rfl,_,hsc,hx,ht⟩:=hm
  simp only at ht
  subst ht
  have hi:P8 w1 x:=by obtain⟨_,_,_,_,_,_,_,_,_,_,h6,_⟩:=hsc;exact h6 x (D5 hx).1
  have Hi:=Aa hi
  obtain⟨hxb,_,_,_,y2,_,A,c,hfv,hl8,_⟩:=hi
  rw[hfv]at y2
  have Hfv:=Aa hfv
  clear hsc hx hfv
  go_wp2_with fail
  go_loopw [26,9] (fun i o wr=>∃(m:Nat) (A3:Option Addr) (n3 c3:Nat),i=.int .i64 m/\o=.slice A3 n3 c3/\m<=x.ty.fields.length/\Hid (wr.ownsRow w1.heap.size 3 1 (.slice A3 n3 c3) m (De ((x.ty.fields.take m).map (·.tag))))/\Hid (Below w1.heap.size w1 wr)) (fun i _ _=>x.ty.fields.length - (intOf i).toNat)
  case atStart=>exact⟨0,none,0,0,rfl,rfl,Nat.zero_le _,World.ownsRow_nil _ _ _ _,Ao _ _⟩
  case round=>
   obtain⟨m,A3,n3,c3,rfl,rfl,hm,Hown,Hbr⟩:=hrel
   have m1:(0:Int)<=(m:Int):=by omega
   by_cases hlt:m<x.ty.fields.length
   ·have m2:(m:Int)<(x.ty.fields.length:Int):=by omega
    obtain⟨_,_,_,_,_,_,A9,c9,hz9,_,hrow9⟩:=Hi.o.below Hbr.o
    rw[Hfv.o]at hz9
    injection hz9 with hA9 hl9 hc9
    subst hA9
    clear hl9 hc9
    obtain⟨b8,o8,rfl,hb8,hrg⟩:=Q5.range hrow9 hlt
    have Hts:=Aa (Cb x.ty.fields m hlt)
    have Hrg:=Aa (show wr.rangeAt b8 (o8+m*6) [.int .i64 (x.ty.fields[m].tag:Int),.string ⟨x.ty.fields[m].name.toArray⟩,.string ⟨x.ty.fields[m].kind.signs.toArray⟩,.string ⟨x.ty.fields[m].kind.base.toArray⟩,.string ⟨x.ty.fields[m].kind.name.toArray⟩,.string ⟨x.ty.fields[m].given.toArray⟩]from hrg)
    have hsz:w1.heap.size<=wr.heap.size:=Hbr.o.size
    clear hrg hrow9
    generalize x.ty.fields[m]=f at *
    obtain⟨w2,hw2⟩:∃w2,w2=wr.alloc (.cells #[.int .i64 (f.tag:Int),.string ⟨f.name.toArray⟩,.string ⟨f.kind.signs.toArray⟩,.string ⟨f.kind.base.toArray⟩,.string ⟨f.kind.name.toArray⟩,.string ⟨f.given.toArray⟩] 97):=⟨_,rfl⟩
    have Hb2:=Aa (show Below wr.heap.size wr w2 by rw[hw2];exact(Ao _ _).alloc (An _) _)
    have d0:w2.cell? ⟨wr.heap.size,0,none⟩=some (.int .i64 (f.tag:Int)):=by rw[hw2];simp
    have Ho2:=Aa (Ct Hown.o Hb2.o)
    have hs2:w1.heap.size<=w2.heap.size:=Nat.le_trans hsz Hb2.o.size
    have Hw2:=Aa hw2
    clear hw2
    go_upto_region 8 with((with_reducible refine wpList_load_mid (op:=⟨_,.load 97 _,_,_,_,none⟩) rfl 97 _ rfl b8 (o8+m*6) ?_ _ _ Hrg.o underlying97 ?_ ?_ ?_);rfl;rfl;kernel_rfl)
    rw[<-Hw2.o]
    go_wp2_with (at_builtin;go_loud (refine Nm _ rfl _ _ 32 rfl w1.heap.size 3 (.int .i64 0) 8 underlying32 Zb rfl w2 (.int .i64 (f.tag:Int)) rfl rfl (.slice A3 n3 c3) m (De ((x.ty.fields.take m).map (·.tag))) rfl rfl Ho2.o (by unfold maxLen;omega) (by omega) hs2 ?_;intro v' w5 hown5 hb5;obtain⟨A5,n5,c5,rfl⟩:=Ed hown5;have Ho:=Aa hown5;have Hb5:=Aa hb5;clear hown5 hb5))
    go_roundw
    case rel=>exact⟨m+1,A5,n5,c5,by go_num,rfl,by omega,(show World.ownsRow _ _ _ _ _ _ _ from by rw[Hts.o,List.map_append];simpa [De]using Ho.o),(Hbr.o.trans (Hb2.o.mono hsz)).trans Hb5.o⟩
    case measure=>simp[intOf];omega
   ·obtain rfl:m=x.ty.fields.length:=by omega
    have hown6:=Hown.o
    rw[List.take_length]at hown6
    obtain⟨A6,c6,e6,hr6⟩:=B0.own hown6
    injection e6 with e7 e8 e9
    subst e7 e8 e9
    have Hr6:=Aa hr6
    clear hown6 hr6
    go_wp2_with fail
    go_ret2
    exact⟨⟨_,_,rfl,Hr6.o⟩,Hb1.o.trans (Hbr.o.mono Hb1.o.size)⟩
def sfN(o:Option (List Ty × Ty))(g:Nat):Option (List UInt8 × List UInt8 × List UInt8):=o.bind fun y=>(Au y.2.fields g).map fun f=>if y.2.sort=69 then(f.name,[],[])else(f.name,Ax f.kind,G9 y.1 f)
def Qgn(q:Option (List UInt8 × List UInt8 × List UInt8))(w:World)(e:Ending)(w':World):Prop:=
 e=.returned (.tuple #[.string ⟨(q.getD ([],[],[])).1.toArray⟩,.string ⟨(q.getD ([],[],[])).2.1.toArray⟩,.string ⟨(q.getD ([],[],[])).2.2.toArray⟩,.bool q.isSome])/\Below w.heap.size w w'
theorem Ts(s n:List UInt8)(g:Nat)(w:World)(hs:s.length<=4000000)(hn:n.length<=4000000)(hg:g<=1000):
  Calls prog 20 #[.string ⟨s.toArray⟩,.string ⟨n.toArray⟩,.int .i64 (g:Int)] w (Qgn (sfN (tyN s n) g) w):=by
 have HN:=Aa (fun W=>Q7 s n W hs hn)
 have HOk:=Aa (fun S t (h:tyN s n=some (S,t))=>(show G7 S/\t∈S from by
  unfold tyN at h
  cases hsc:B9 s with
  |none=>rw[hsc]at h;cases h
  |some S'=>
   rw[hsc]at h
   simp only[Option.bind_some]at h
   cases ht:Bk S' n with
   |none=>rw[ht]at h;cases h
   |some t'=>
    rw[ht]at h
    injection h with h
    injection h with h1 h2
    subst h1 h2
    exact⟨(Jy.1 hsc).1,(Cf ht).1⟩))
 obtain⟨q,hq⟩:∃q,q=sfN (tyN s n) g:=⟨_,rfl⟩
 rw[<-hq]
 have HQ:=Aa hq
 clear hq
 generalize tyN s n=o at *
 go_enter func20,ntmps20
 go_wp2_with fail
 refine(HN.o _).mono ?_
 rintro e w1 ⟨hm,hb1⟩
 have Hb1:=Aa hb1
 clear hb1
 cases o with
 |none=>
  obtain rfl:=hm
  have HQ:=Aa (show q=none from HQ.o)
  go_wp2_with fail
  refine bodyPost_ret (v:=.tuple #[.string ⟨#[]⟩,.string ⟨#[]⟩,.string ⟨#[]⟩,.bool false]) (by simp[results,results20,go_sem]) rfl ?_
  exact⟨by rw[HQ.o];rfl,Hb1.o⟩
 |some y=>
  obtain⟨S,t⟩:=y
  obtain⟨hsk,htS⟩:=HOk.o S t rfl
  obtain⟨p,xs,x,rfl,hS,hsc,hx,ht⟩:=hm
  simp only at hS ht
  subst ht
  subst hS
  have hi:P8 w1 x:=by obtain⟨_,_,_,_,_,_,_,_,_,_,h6,_⟩:=hsc;exact h6 x (D5 hx).1
  have HF:=Aa (Ke w1 x hi g w1 (Ao _ _) (by omega))
  have HQ:=Aa (show q=(Au x.ty.fields g).map fun f=>if x.ty.sort=69 then(f.name,[],[])else(f.name,Ax f.kind,G9 (Ag xs) f)from HQ.o)
  have Hty:=Aa (hsk.1.1 x.ty htS)
  have Href:=Aa (hsk.2.1 x.ty htS)
  have Hsk:=Aa hsk
  have Hsc:=Aa hsc
  have Hfm:=Aa (fun f (h:Au x.ty.fields g=some f)=>(At h).2)
  obtain⟨hxb,_,y0,_,_,_,_⟩:=hi
  obtain⟨pb,_,_,_,rfl,_⟩:=hsc
  clear hx hsk htS HOk HN
  go_wp2_with fail
  refine HF.o.mono ?_
  rintro e w2 ⟨v,rfl,hv,rfl⟩
  cases hf:Au x.ty.fields g with
  |none=>
   rw[hf]at hv
   obtain rfl:=hv
   have HQ:=Aa (show q=none by rw[HQ.o,hf];rfl)
   clear hf HF
   go_wp2_with fail
   refine bodyPost_ret (v:=.tuple #[.string ⟨#[]⟩,.string ⟨#[]⟩,.string ⟨#[]⟩,.bool false]) (by simp[results,results20,go_sem]) rfl ?_
   exact⟨by rw[HQ.o];rfl,Hb1.o⟩
  |some f=>
   rw[hf]at hv
   obtain⟨b,o,rfl,hb,hrg⟩:=hv
   have hmem:=Hfm.o f hf
   have HQ:=Aa (show q=some (if x.ty.sort=69 then(f.name,[],[])else(f.name,Ax f.kind,G9 (Ag xs) f))by rw[HQ.o,hf];rfl)
   have c1:w1.cell? ⟨b,o+1,none⟩=some (.string ⟨f.name.toArray⟩):=Ab hrg 1 rfl
   by_cases h69:x.ty.sort=69
   ·have t69:((x.ty.sort.toNat:Int) == 69)=true:=Bj (d:=69) h69
    have HQ:=Aa (HQ.o.trans (congrArg some (if_pos h69)))
    clear hf HF h69 hrg
    go_wp2_with fail
    refine bodyPost_ret (v:=.tuple #[.string ⟨f.name.toArray⟩,.string ⟨#[]⟩,.string ⟨#[]⟩,.bool true]) (by simp[results,results20,go_sem]) rfl ?_
    exact⟨by rw[HQ.o];rfl,Hb1.o⟩
   have t69:((x.ty.sort.toNat:Int) == 69)=false:=Ap (d:=69) h69
   have hfo:=(Hty.o.2.2.1.1 f hmem)
   have hkd:=(hfo.2.2.2.2 h69).1
   have Ht:=Aa (fun W=>Qg7 f.kind W (by have:=hkd.2.2;omega))
   have Ho:=Aa (fun W (hW:Below w1.heap.size w1 W)=>Rj _ xs Hsk.o f b o W (Hsc.o.below hW) (Ah hrg hb hW) hkd (Href.o h69 f hmem) (Nat.le_trans (Fq hfo) (by decide)))
   have HQ:=Aa (HQ.o.trans (congrArg some (if_neg h69)))
   have c2:w1.cell? ⟨b,o+2,none⟩=some (.string ⟨f.kind.signs.toArray⟩):=Ab hrg 2 rfl
   have c3:w1.cell? ⟨b,o+2+1,none⟩=some (.string ⟨f.kind.base.toArray⟩):=Ab hrg 3 rfl
   have c4:w1.cell? ⟨b,o+2+1+1,none⟩=some (.string ⟨f.kind.name.toArray⟩):=Ab hrg 4 rfl
   have c4':w1.cell? ⟨b,o+2+2,none⟩=some (.string ⟨f.kind.name.toArray⟩):=c4
   unfold D9 at Ht
   unfold Fz at Ho
   clear hf HF h69 hrg hkd hfo
   generalize G9 (Ag xs) f=ov at *
   generalize Ax f.kind=kb at *
   go_wp2_with fail
   refine rgB ?_
   iterate 8 refine sq ?_
   refine sqC (fun W _=>Ht.o W) ?_
   iterate 2 refine sq ?_
   refine sqC Ho.o ?_
   iterate 4 refine sq ?_
   refine dnB fun w5 HB=>?_
   have Hb5:=Aa (Hb1.o.trans (HB.o.mono Hb1.o.size))
   clear HB
   go_wp2_with fail
   refine bodyPost_ret (v:=.tuple #[.string ⟨f.name.toArray⟩,.string ⟨kb.toArray⟩,.string ⟨ov.toArray⟩,.bool true]) (by simp[results,results20,go_sem]) rfl ?_
   exact⟨by rw[HQ.o];rfl,Hb5.o⟩
def Qjf(o:Option (List Ty × Kd))(g:Nat):Option Fd:=o.bind fun y=>if y.2.signs=[]/\y.2.base=[64]then(Bk y.1 y.2.name).bind fun t=>if t.sort=82 then Au t.fields g else none else none
def rfN(o:Option (List Ty × Kd))(x:List UInt8)(g:Nat):Option (Fd × Vl):=(Xr o x).bind fun v=>(Qjf o g).map fun f=>(f,v)
def Qlw(q:Option (Fd × Vl))(w:World)(e:Ending)(w':World):Prop:=
 (match q with
  |none=>e=.returned (.tuple #[.pointer none,Ec Et (.slice none 0 0),.bool false])
  |some y=>∃b o sl,e=.returned (.tuple #[.pointer (some ⟨b,o,none⟩),Ec y.2 sl,.bool true])/\b<w'.heap.size/\w'.rangeAt b o (Rt y.1)/\Ea (fun c=>w.heap.size<=c) w' sl y.2.kids)/\Below w.heap.size w w'
theorem Qmg{pp:Prop}(h:pp:=by
  go_wp2_with ((with_reducible refine Af (op:=⟨none,.store 68 _ _,_,_,_,none⟩) rfl 68 _ _ rfl w.heap.size 0 [.int .u8 0,.string ⟨#[]⟩,.int .i64 0,.slice none 0 0] ?_ ?_ ?_ ?_ ?_ ?_);rfl;rfl;(exact HT.o);kernel_rfl;(simp[Value.oneCell']);intro w9 HS9)
  have HZ:w9.rangeAt w.heap.size 0 (Gl Et (.slice none 0 0)):=by rw[HS9.o];exact World.rangeAt_setCells_same _ _ _ _ HT.o
  exact bodyPost_ret (v:=.tuple #[.pointer none,.agg (Gl Et (.slice none 0 0)).toArray,.bool false]) (Eb results60 _ _ w.heap.size _ _ _ _ rfl rfl rfl HZ underlying68 rfl (by kernel_rfl)) rfl ⟨by rw[HQ.o];rfl,by rw[HS9.o];exact Ai _ (An _) _ _ _ HB.o⟩):pp:=h
theorem Vk(s d x:List UInt8)(g:Nat)(w:World)(hs:s.length<=4000000)(hd:d.length<=4000000)(hx:x.length<=4000000)(hg:g<=1000):
  Calls prog 60 #[.string ⟨s.toArray⟩,.string ⟨d.toArray⟩,.string ⟨x.toArray⟩,.int .i64 (g:Int)] w (Qlw (rfN (Bm s d) x g) w):=by
 have HG:=Aa (fun W=>Qgb s d x W hs hd hx)
 have HV:=Aa (fun v (h:Xr (Bm s d) x=some v)=>Qa5 h)
 obtain⟨q,hq⟩:∃q,q=rfN (Bm s d) x g:=⟨_,rfl⟩
 rw[<-hq]
 have HQ:=Aa hq
 clear hq
 generalize Bm s d=o at *
 go_enter func60,ntmps60
 go_wp2_with fail
 obtain⟨W0,hW0⟩:∃W0,W0=w.alloc (.cells #[.int .u8 0,.string ⟨#[]⟩,.int .i64 0,.slice none 0 0] 68):=⟨_,rfl⟩
 rw[<-hW0]
 have HB0:=Aa (show Below w.heap.size w W0 by rw[hW0];exact(Ao _ _).alloc (An _) _)
 have HT0:=Aa (show W0.there w.heap.size 0 4 by rw[hW0];exact Bz w [.int .u8 0,.string ⟨#[]⟩,.int .i64 0,.slice none 0 0] 68)
 have hz0:W0.heap.size=w.heap.size+1:=by rw[hW0];simp
 have HN0:=Aa (show ∀j,4<=j->W0.cell? ⟨w.heap.size,j,none⟩=none from fun j hj=>by
  rw[hW0,World.cell?_alloc_new]
  exact Array.getElem?_eq_none (by simp;omega))
 clear hW0
 refine(HG.o _).mono ?_
 rintro e w1 ⟨⟨p,k1,k2,k3,v,sl,rfl,hs1,hy⟩,hb1⟩
 obtain⟨A1,c1,rfl⟩:=hs1.form
 have HB1:=Aa (HB0.o.trans (hb1.mono (by omega)))
 have HT1:=Aa (Aj HT0.o (by omega) hb1)
 have HN1:=Aa (fun j hj=>(hb1.cell (p:=⟨w.heap.size,j,none⟩) (show w.heap.size<W0.heap.size by omega)).trans (HN0.o j hj))
 have hz1:=hb1.size
 have Hs1:=Aa hs1
 have HY:=Aa hy
 clear hb1 hs1 hy HB0 HT0 HN0 HG
 unfold Ec
 obtain⟨W2,hW2⟩:∃W2,W2=(w1.alloc (.cells #[.string k1,.string k2,.string k3] 60)).alloc (.cells #[.int .u8 (v.what.toNat:Int),.string ⟨v.text.toArray⟩,.int .i64 (v.tag:Int),.slice A1 v.kids.length c1] 68):=⟨_,rfl⟩
 have hb2:Below w1.heap.size w1 W2:=by rw[hW2];exact((Ao _ _).alloc (An _) _).alloc (by simp) _
 have HX2:=Aa (show W2.rangeAt (w1.heap.size+1) 0 (Gl v (.slice A1 v.kids.length c1))by
  rw[hW2]
  have:=Bo (w1.alloc (.cells #[.string k1,.string k2,.string k3] 60)) (Gl v (.slice A1 v.kids.length c1)) 68
  rw[World.size_alloc]at this
  exact this)
 have k0:W2.cell? ⟨w1.heap.size,0,none⟩=some (.string k1):=by rw[hW2];simp
 have k1':W2.cell? ⟨w1.heap.size,1,none⟩=some (.string k2):=by rw[hW2];simp
 have k2':W2.cell? ⟨w1.heap.size,2,none⟩=some (.string k3):=by rw[hW2];simp
 have hz2:W2.heap.size=w1.heap.size+1+1:=by rw[hW2];simp
 have HB:=Aa (HB1.o.trans (hb2.mono HB1.o.size))
 have HT:=Aa (Aj HT1.o (by omega) hb2)
 have HN2:=Aa (fun j hj=>(hb2.cell (p:=⟨w.heap.size,j,none⟩) (show w.heap.size<w1.heap.size by omega)).trans (HN1.o j hj))
 have Hs2:=Aa (Hs1.o.after hb2)
 have Hb2:=Aa hb2
 have HW2:=Aa hW2
 clear hb2 hW2 HT1 HN1 Hs1
 cases hv:Xr o x with
 |none=>
  have HQ:=Aa (show q=none by rw[HQ.o];unfold rfN;rw[hv];rfl)
  rw[Option.isSome_none]
  clear hv HV HY
  go_upto_region 2 with fail
  rw[<-HW2.o]
  clear k0 k1' k2'
  exact Qmg
 |some y=>
  obtain⟨rfl,S,k,xs,hoS,hxs,rfl,rfl,rfl,hisl⟩:=HY.o y hv
  obtain⟨S',k',e1,hok,hkd,hrf,_⟩:=HV.o v hv
  rw[hoS]at e1
  injection e1 with e1
  injection e1 with e1 e2
  subst e1 e2
  have HQ:=Aa (show q=(Qjf (some (S,k)) g).map fun f=>(f,v)by rw[HQ.o];unfold rfN;rw[hv,hoS];rfl)
  rw[Option.isSome_some]
  subst hxs
  have hsc:=hisl.isc.below Hb2.o
  have Hfp:=Aa (fun h:k.base=[64]=>(show ∃z,D8 xs k.name=some z from by
   have:=hrf h
   rw[Gg]at this
   cases hz:D8 xs k.name with
   |none=>rw[hz]at this;cases this
   |some z=>exact⟨z,rfl⟩))
  have HC:=Aa (fun W (hW:Below W2.heap.size W2 W)=>Qdq _ xs k W (hsc.below hW) (by have:=Fv hkd;omega) Hfp.o)
  have Hty:=Aa (show ∀z∈xs,P8 W2 z from by obtain⟨_,_,_,_,_,_,_,_,_,_,h6,_⟩:=hsc;exact h6)
  unfold D9 at HC
  clear hv HV HY hoS hok hkd hrf hisl hsc
  go_upto_region 2 with fail
  rw[<-HW2.o]
  by_cases hrec:k.signs=[]/\k.base=[64]
  ·obtain⟨z,hz⟩:=Hfp.o hrec.2
   have hR:Xs xs k=some z:=by unfold Xs;rw[if_pos hrec,hz]
   rw[hR]at HC
   have hzt:=Hty.o z (D5 hz).1
   have HF:=Aa (fun W (hW:Below W2.heap.size W2 W)=>Ke W2 z hzt g W hW (by omega))
   have HQ:=Aa (show q=(if z.ty.sort=82 then Au z.ty.fields g else none).map fun f=>(f,v)by
    rw[HQ.o]
    unfold Qjf
    simp only[Option.bind_some]
    rw[if_pos hrec,(D5 hz).2.2]
    rfl)
   unfold Pq PT.ptr at HC
   simp only[Option.any_some]at HC
   clear hrec hz hR Hty Hfp hzt
   by_cases h82:z.ty.sort=82
   ·rw[decide_eq_true h82]at HC
    have HQ:=Aa (show q=(Au z.ty.fields g).map fun f=>(f,v)by rw[HQ.o,if_pos h82])
    clear h82
    go_wp2_with fail
    refine(HC.o _ (Ao _ _)).mono ?_
    rintro e w3 ⟨rfl,hb3⟩
    have HB3:=Aa hb3
    clear hb3 HC k0 k1' k2'
    go_wp2_with fail
    refine(HF.o w3 HB3.o).mono ?_
    rintro e w3' ⟨vp,rfl,hv,rfl⟩
    cases hf:Au z.ty.fields g with
    |none=>
     rw[hf]at hv
     obtain rfl:=hv
     have HQ:=Aa (show q=none by rw[HQ.o,hf];rfl)
     have HB:=Aa (HB.o.trans (HB3.o.mono HB.o.size))
     have HT:=Aa (Aj HT.o (by omega) HB3.o)
     clear hf HF
     exact Qmg
    |some f=>
     rw[hf]at hv
     obtain⟨b,of,rfl,hb,hrg⟩:=hv
     have HQ:=Aa (show q=some (f,v)by rw[HQ.o,hf];rfl)
     have Hf:=Aa hf
     have hz3:=HB3.o.size
     have X3:=Aa (Ah HX2.o (by omega) HB3.o)
     have T3:=Aa (Aj HT.o (by omega) HB3.o)
     have B3:=Aa (HB.o.trans (HB3.o.mono HB.o.size))
     have S3:=Aa (Hs2.o.after HB3.o)
     have HN3:=Aa (fun j hj=>(HB3.o.cell (p:=⟨w.heap.size,j,none⟩) (show w.heap.size<W2.heap.size by omega)).trans (HN2.o j hj))
     clear hf hb hrg HB HT HN2
     go_wp2_with fail
     refine rgF (fun l u W=>(l 5=false->Below w3.heap.size w3 W)/\(l 5=true->∃W0,Below w3.heap.size w3 W0/\W=W0.setCells w.heap.size 0 (Gl v (.slice A1 v.kids.length c1)))) (fun _=>True) (fun _ _ _ _=>Ac) ⟨fun _=>(Ao _ _).drew,fun h=>absurd h (by decide)⟩ ?_
     iterate 2 refine sq ?_
     refine sqX (fun x=>∃b o:Nat,x=.pointer (some ⟨b,o,none⟩)/\b<w3.heap.size/\w3.rangeAt b o (Rt f)) (by
      intro l u W hl hp hF hG hi K hK
      have hb5:=hF.o.1 (hi.o 5 (by rfl)).1
      simp[Region.binds,Fb]at hp
      have HX:=HF.o W (HB3.o.trans (hb5.mono HB3.o.size))
      rw[Hf.o]at HX
      have Hb5:=Aa hb5
      clear hi hG hb5
      go_simp
      refine HX.mono ?_
      rintro e w' ⟨vp,rfl,⟨b',o',rfl,hb',hr'⟩,rfl⟩
      exact hK (.pointer (some ⟨b',o',none⟩)) _ _ ⟨b',o',rfl,by omega,fun j y hy=>(Hb5.o.cell (p:=⟨b',o'+j,none⟩) (show b'<w3.heap.size by omega)).symm.trans (hr' j y hy)⟩ hF.o (by simp[Act.put,hp])) ?_
     refine sqX (fun x=>x=.agg (Gl v (.slice A1 v.kids.length c1)).toArray) (by
      intro l u W hl hp hF hG hi K hK
      have hb:=hF.o.1 (hi.o 5 (by rfl)).1
      have hl3:w1.heap.size+1<w3.heap.size:=by omega
      have hx:=Ah X3.o hl3 hb
      have y0:=Ab hx 0 rfl
      have y1:=Ab hx 1 rfl
      have y2:=Ab hx 2 rfl
      have y3:=Ab hx 3 rfl
      simp only[Nat.zero_add]at y0 y1 y2 y3
      clear hp hi hG hb hx
      go_simp
      exact hK (.agg (Gl v (.slice A1 v.kids.length c1)).toArray) _ _ rfl hF.o rfl) ?_
     refine sqX (fun x=>∃b o:Nat,x=.pointer (some ⟨b,o,none⟩)/\b<w3.heap.size/\w3.rangeAt b o (Rt f)) (by
      intro l u W hl hp hF hG hi K hK
      simp[Region.binds,Fb]at hp
      obtain⟨⟨_,b',o',e2,hb',hr'⟩,hp⟩:=hp
      have Hr:=Aa hr'
      clear hi hG hr'
      go_simp
      exact hK (.pointer (some ⟨b',o',none⟩)) _ _ ⟨b',o',rfl,hb',Hr.o⟩ hF.o (by simp[Act.put,e2,hp])) ?_
     refine sqX (fun _=>True) (by
      intro l u W hl hp hF hG hi K hK
      have h3:=(hp ⟨3,.data⟩ (by simp) rfl).2
      have h3:u 3=.agg (Gl v (.slice A1 v.kids.length c1)).toArray:=h3
      have hb:=hF.o.1 hl
      simp only[Region.wanted,if_true]
      refine wp_store_mid 68 _ _ rfl w.heap.size 0 (Gl v (.slice A1 v.kids.length c1)).toArray rfl h3 (Aj T3.o (by omega) hb) (by kernel_rfl) (by simp[Gl,Value.oneCell']) ?_
      exact hK undef _ _ Ac ⟨fun h=>Bool.noConfusion (show true=false from h),fun _=>⟨W,hb,rfl⟩⟩ rfl) ?_
     refine sq ?_
     intro l u W hl hu hF
     simp only[Xw,List.nil_append,List.cons_append,Nat.zero_add,Nat.reduceAdd]at hu
     obtain⟨_,_,_,e3,⟨b',o',e4,hb',hr'⟩,_,e6,_⟩:=hu
     simp only[e4,e6]
     obtain⟨W0,hb0,rfl⟩:=hF.2 (hl 5 (by decide))
     have hne:b'≠w.heap.size:=fun e=>by
      have h1:=hr' 4 _ rfl
      rw[e]at h1
      rw[HN3.o (o'+4) (by omega)]at h1
      cases h1
     have Hr:=Aa (show World.rangeAt (W0.setCells w.heap.size 0 (Gl v (.slice A1 v.kids.length c1))) b' o' (Rt f)from fun j y hy=>by
      rw[World.cell?_setCells_out _ _ _ _ ⟨b',o'+j,none⟩ (fun h _=>absurd h hne)]
      exact(hb0.cell (p:=⟨b',o'+j,none⟩) hb').trans (hr' j y hy))
     have Hb0:=Aa hb0
     have hz9:=hb0.size
     clear hl hF hb0 hr' e3
     go_wp2_with fail
     refine bodyPost_ret (v:=.tuple #[.pointer (some ⟨b',o',none⟩),.agg (Gl v (.slice A1 v.kids.length c1)).toArray,.bool true]) (Eb results60 _ _ w.heap.size _ _ _ _ rfl rfl rfl (World.rangeAt_setCells_same _ _ _ (Gl v (.slice A1 v.kids.length c1)) (Aj T3.o (by omega) Hb0.o)) underlying68 rfl (by kernel_rfl)) rfl ?_
     rw[HQ.o]
     exact⟨⟨b',o',.slice A1 v.kids.length c1,rfl,Nat.lt_of_lt_of_le hb' (Nat.le_trans hz9 (Br w.heap.size (Gl v (.slice A1 v.kids.length c1)) 0 W0).size),Hr.o,(((S3.o.after Hb0.o).mono (Q:=fun c=>w.heap.size+1<=c) fun c hc _=>by omega).set (B:=w.heap.size) (by omega) _).mono fun c hc _=>by omega⟩,Ai _ (An _) _ _ _ (B3.o.trans (Hb0.o.mono (by omega)))⟩
   rw[decide_eq_false h82]at HC
   have HQ:=Aa (show q=none by rw[HQ.o,if_neg h82];rfl)
   clear h82
   go_wp2_with fail
   refine(HC.o _ (Ao _ _)).mono ?_
   rintro e w3 ⟨rfl,hb3⟩
   have HB:=Aa (HB.o.trans (hb3.mono HB.o.size))
   have HT:=Aa (Aj HT.o (by omega) hb3)
   clear hb3 HC k0 k1' k2' HF
   exact Qmg
  have hR:Xs xs k=none:=by unfold Xs;rw[if_neg hrec]
  rw[hR]at HC
  have HQ:=Aa (show q=none by
   rw[HQ.o]
   unfold Qjf
   simp only[Option.bind_some]
   rw[if_neg hrec]
   rfl)
  unfold Pq at HC
  simp only[Option.any_none]at HC
  clear hrec hR Hty Hfp
  go_wp2_with fail
  refine(HC.o _ (Ao _ _)).mono ?_
  rintro e w3 ⟨rfl,hb3⟩
  have HB:=Aa (HB.o.trans (hb3.mono HB.o.size))
  have HT:=Aa (Aj HT.o (by omega) hb3)
  clear hb3 HC k0 k1' k2'
  exact Qmg
theorem Qgs{S:List Ty}{d:Nat}{k:Kd}{v:Vl}{t:Ty}(h:Ha S (d+1) k v)(ht:Bk S k.name=some t)(h2:t.sort=82)(hs:k.signs=[])(hb:k.base=[64]):
  ∃fs:List (Fd × Vl),v=.mk 82 [] 0 (fs.map Dk)/\(∀p∈fs,Au t.fields p.1.tag=some p.1)/\(∀p∈fs,Ha S d p.1.kind p.2)/\∀p∈fs,Az p.2≠G9 S p.1:=by
 cases h with
 |n hs' hb' h=>rw[hb']at hb;exact absurd hb (by decide)
 |t hs' hb' h=>rw[hb']at hb;exact absurd hb (by decide)
 |f hs' hb'=>rw[hb']at hb;exact absurd hb (by decide)
 |lst hs' hl2 h=>rw[hs']at hs;cases hs
 |non hs'=>rw[hs']at hs;cases hs
 |som hs' h=>rw[hs']at hs;cases hs
 |enm hs' hb' ht' h9 hf=>rw[ht]at ht';injection ht' with ht';subst ht';rw[h2]at h9;exact absurd h9 (by decide)
 |uni hs' hb' ht' h5 hf h=>rw[ht]at ht';injection ht' with ht';subst ht';rw[h2]at h5;exact absurd h5 (by decide)
 |rcd hs' hb' ht' h2' hf h hn hp=>rw[ht]at ht';injection ht' with ht';subst ht';exact⟨_,rfl,hf,h,hn⟩
def fvL(S:List Ty)(v:Vl)(f:Fd):List UInt8:=match v.kids.find? fun z=>decide (z.tag=f.tag)with
 |some z=>Az (Qhy z)
 |none=>G9 S f
def vfN(o:Option (List Ty × Kd))(x:List UInt8)(g:Nat):Option (List UInt8):=(rfN o x g).map fun y=>fvL ((o.map (·.1)).getD []) y.2 y.1
theorem Qet{o:Option (List Ty × Kd)}{x:List UInt8}{g:Nat}{f:Fd}{v:Vl}(h:rfN o x g=some (f,v)):∃S k t,o=some (S,k)/\Xr o x=some v/\k.signs=[]/\k.base=[64]/\Bk S k.name=some t/\t.sort=82/\Au t.fields g=some f:=by
 unfold rfN Qjf at h
 cases hv:Xr o x with
 |none=>rw[hv]at h;cases h
 |some v'=>
  cases ho:o with
  |none=>rw[ho]at hv;cases hv
  |some y=>
   obtain⟨S,k⟩:=y
   rw[hv,ho]at h
   simp only[Option.bind_some]at h
   split at h
   ·rename_i hr
    cases ht:Bk S k.name with
    |none=>rw[ht]at h;cases h
    |some t=>
     rw[ht]at h
     simp only[Option.bind_some]at h
     split at h
     ·rename_i h2
      cases hf:Au t.fields g with
      |none=>rw[hf]at h;cases h
      |some f'=>
       rw[hf]at h
       injection h with h
       injection h with h h'
       subst h h'
       exact⟨S,k,t,rfl,rfl,hr.1,hr.2,ht,h2,hf⟩
     cases h
   cases h
theorem Qad{o:Option (List Ty × Kd)}{x:List UInt8}{g:Nat}{a:List UInt8}(h:vfN o x g=some a):∃S k v t f,o=some (S,k)/\Xr o x=some v/\k.signs=[]/\k.base=[64]/\Bk S k.name=some t/\t.sort=82/\Au t.fields g=some f/\a=fvL S v f:=by
 unfold vfN at h
 cases hr:rfN o x g with
 |none=>rw[hr]at h;cases h
 |some y=>
  obtain⟨f,v⟩:=y
  rw[hr]at h
  injection h with h
  obtain⟨S,k,t,rfl,h2⟩:=Qet hr
  exact⟨S,k,v,t,f,rfl,h2.1,h2.2.1,h2.2.2.1,h2.2.2.2.1,h2.2.2.2.2.1,h2.2.2.2.2.2,h.symm⟩
theorem Qgw{n:Nat}:∀fs:List (Fd × Vl),((fs.map Dk).find? fun z=>decide (z.tag=n))=(fs.find? fun p=>decide (p.1.tag=n)).map Dk
 |[]=>rfl
 |p::fs=>by
  rw[List.map_cons,List.find?_cons,List.find?_cons]
  have e:(Dk p).tag=p.1.tag:=rfl
  rw[e]
  cases decide (p.1.tag=n)with
  |true=>rfl
  |false=>exact Qgw fs
theorem Qew{S:List Ty}{K:Kd->Vl->Vl × Bool}{gs:List Fd}{n:Nat}{f:Fd}(hf:Au gs n=some f)(hK:∀v,K f.kind v=(v,false)):∀fs:List (Fd × Vl),(∀p∈fs,p.1.tag=n->Az p.2≠G9 S f) ->
  ((fs.filterMap (Md S K gs)).find? fun p=>decide (p.1.tag=n)).map (fun p=>p.2)=(fs.find? fun p=>decide (p.1.tag=n)).map (fun p=>p.2)
 |[],_=>rfl
 |p::fs,h=>by
  have ih:=Qew hf hK fs fun q hq=>h q (by simp[hq])
  rw[List.filterMap_cons,List.find?_cons]
  by_cases hn:p.1.tag=n
  ·have e:Md S K gs p=some (f,p.2):=by
    unfold Md
    rw[hn,hf]
    simp only
    rw[hK,if_neg (h p (by simp) hn)]
   rw[e,decide_eq_true hn]
   simp only
   rw[List.find?_cons,decide_eq_true (At hf).1]
   rfl
  rw[decide_eq_false hn]
  simp only
  cases hl:Md S K gs p with
  |none=>exact ih
  |some q=>
   have:=(Kb hl).2.1
   simp only
   rw[List.find?_cons,decide_eq_false (by rw[this];exact hn)]
   exact ih
theorem Qkr{k:Kd}(hk:Ck k)(h:Ax k=[110]\/Ax k=[116]\/Ax k=[102]):k.signs=[]/\k.base≠[64]:=by
 have hs:k.signs=[]:=by
  cases hs:k.signs with
  |nil=>rfl
  |cons c r=>
   have e:Ax k=c::(r++Bu k):=by unfold Ax;rw[hs];rfl
   rw[e]at h
   rcases Nz hk hs with rfl|rfl<;>(rcases h with h|h|h<;>(injection h with h;exact absurd h (by decide)))
 refine⟨hs,fun hb=>?_⟩
 have e:Ax k=64::(k.name++[59]):=by unfold Ax Bu;rw[hs,if_pos hb];rfl
 rw[e]at h
 rcases h with h|h|h<;>(injection h with h;exact absurd h (by decide))
theorem Qdw{s1 d1 s2 d2 x:List UInt8}{r:Vl × Bool}{g:Nat}{nm kd st a b:List UInt8}(h:Jw (Bm s1 d1) (Bm s2 d2) x=some r)(h1:sfN (tyN s1 ((kNm d1).getD [])) g=some (nm,kd,st))(hp:kd=[110]\/kd=[116]\/kd=[102])
  (h2:vfN (Bm s2 d2) x g=some a) (h3:vfN (Bm s1 d1) (Az r.1) g=some b):a=b:=by
 have hlen:=Qd9 h
 obtain⟨S,ka,T,kb,v,R,e1,e2,_,hR,hK,g1,g2,g3,g4,v1,v2,v3,er,i1,_⟩:=Qa2 h
 obtain⟨T',kb',v',u,gf,o1,o2,o3,o4,o5,o6,o7,rfl⟩:=Qad h2
 obtain⟨S',ka',r',t,f,q1,q2,q3,q4,q5,q6,q7,rfl⟩:=Qad h3
 rw[e2]at o1
 injection o1 with o1;injection o1 with o1 o1';subst o1 o1'
 rw[e1]at q1
 injection q1 with q1;injection q1 with q1 q1';subst q1 q1'
 obtain rfl:v'=v:=by
  rw[e2]at o2
  have:=(Gk g3.1.1 g4).2 ⟨v1,v2,v3⟩
  have o2:Gs T kb x=some v':=o2
  rw[this]at o2
  injection o2 with o2
  exact o2.symm
 obtain rfl:r'=r.1:=by
  rw[e1]at q2
  have:=(Gk g1.1.1 g2).2 ⟨i1,rfl,hlen⟩
  have q2:Gs S ka (Az r.1)=some r':=q2
  rw[this]at q2
  injection q2 with q2
  exact q2.symm
 obtain⟨hsL,hkL,_⟩:=Sl e1
 have hpl:f.kind.signs=[]/\f.kind.base≠[64]:=by
  have e:tyN s1 ((kNm d1).getD [])=some (S,t):=by
   rw[Qkh hkL q3 q4]
   unfold tyN
   rw[hsL]
   simp[q5]
  rw[e]at h1
  unfold sfN at h1
  simp only[Option.bind_some]at h1
  rw[q7]at h1
  simp only[Option.map_some]at h1
  rw[if_neg (by rw[q6];decide)]at h1
  injection h1 with h1
  injection h1 with _ h1
  injection h1 with h1 _
  rw[<-h1]at hp
  exact Qkr (K0 g1.1.1 q5 (by rw[q6];decide) (At q7).2).1 hp
 obtain⟨fs,rfl,hf,hvk,hn⟩:=Qgs v1 o5 o6 o3 o4
 obtain⟨t',u',p1,p2,p3,p4⟩:=hR _ _ (hK.2.2 (hK.2.1.trans o4))
 rw[q5]at p1;injection p1 with p1;subst p1
 rw[o5]at p2;injection p2 with p2;subst p2
 have hrel:=p4 gf (At o7).2
 unfold Nv at hrel
 rw[(At o7).1,q7]at hrel
 have hof:=(hrel.resolve_left (by rw[o6];decide)).2 o6
 have hlif:∀z,Dc S 11 f.kind z=(z,false):=fun z=>by
  cases z with
  |mk w tx tg ks=>rw[Dg,if_neg (by rw[hpl.1];simp),if_pos hpl.2]
 have hno:∀p∈fs,p.1.tag=g->Az p.2≠G9 S f:=fun p hp e=>by
  have h5:=hf p hp
  rw[e,o7]at h5
  injection h5 with h5
  rw[hof,h5]
  exact hn p hp
 have er2:r.1=.mk 82 [] 0 ((fs.filterMap (Md S (Dc S 11) t.fields)).map Dk):=by
  rw[er,Dg,if_neg (by rw[q3];simp),if_neg (by rw[q4];simp),q5]
  simp only
  rw[if_neg (show ¬(82:UInt8)=85 by decide),if_pos Ac,Vd]
 have hfl:=Qew (K:=Dc S 11) q7 hlif fs hno
 have hfv:∀(U:List Ty) (ps:List (Fd × Vl)) (w:Fd),fvL U (.mk 82 [] 0 (ps.map Dk)) w=(((ps.find? fun p=>decide (p.1.tag=w.tag)).map fun p=>p.2).map Az).getD (G9 U w):=fun U ps w=>by
  unfold fvL
  rw[show (Vl.mk 82 [] 0 (ps.map Dk)).kids=ps.map Dk from rfl,Qgw]
  cases ps.find? fun p=>decide (p.1.tag=w.tag)<;>rfl
 rw[er2,hfv,hfv,(At o7).1,(At q7).1,hfl,hof]
def Qi5(o:Option (List UInt8))(w:World)(e:Ending)(w':World):Prop:=e=.returned (.tuple #[.string ⟨(o.getD []).toArray⟩,.bool o.isSome])/\Below w.heap.size w w'
def Yi(ks:List Vl)(m g:Nat):Prop:=∀z∈ks.take m,decide (z.tag=g)=false
theorem Yi.at_{ks:List Vl}{m g:Nat}(h:Yi ks m g)(hm:m<ks.length):(ks.find? fun z=>decide (z.tag=g))=if decide (ks[m].tag=g)=true then some ks[m]else((ks.drop (m+1)).find? fun z=>decide (z.tag=g)):=Ri (p:=fun z:Vl=>decide (z.tag=g)) hm h
theorem Yi.step{ks:List Vl}{m g:Nat}(h:Yi ks m g)(hm:m<ks.length)(hn:decide (ks[m].tag=g)=false):Yi ks (m+1) g:=fun z hz=>by
 rw[Cb ks m hm]at hz
 rcases List.mem_append.1 hz with hz|hz
 ·exact h z hz
 simp at hz;subst hz;exact hn
theorem P5(s d x:List UInt8)(g:Nat)(w:World)(hs:s.length<=4000000)(hd:d.length<=4000000)(hx:x.length<=4000000)(hg:g<=1000):
  Calls prog 21 #[.string ⟨s.toArray⟩,.string ⟨d.toArray⟩,.string ⟨x.toArray⟩,.int .i64 (g:Int)] w (Qi5 (vfN (Bm s d) x g) w):=by
 have HR:=Aa (fun W=>Vk s d x g W hs hd hx hg)
 have HS:=Aa (fun W=>Mz s W hs)
 have HV:=Aa (fun v (h:Xr (Bm s d) x=some v)=>Qa5 h)
 have HB:=Aa (fun S k (h:Bm s d=some (S,k))=>(Sl h).1)
 have HI:=Aa (fun a (h:vfN (Bm s d) x g=some a)=>Qad h)
 obtain⟨q,hq⟩:∃q,q=vfN (Bm s d) x g:=⟨_,rfl⟩
 rw[<-hq]
 have HQ:=Aa hq
 clear hq
 generalize Bm s d=o at *
 go_enter func21,ntmps21
 go_wp2_with fail
 refine(HR.o _).mono ?_
 rintro e w1 ⟨hm,hb1⟩
 have Hb1:=Aa hb1
 cases hrf:rfN o x g with
 |none=>
  rw[hrf]at hm
  obtain rfl:=hm
  have HQ:=Aa (show q=none by rw[HQ.o];unfold vfN;rw[hrf];rfl)
  have Hal:=Aa (fun o=>Hb1.o.alloc Hb1.o.size o)
  clear hrf hb1
  unfold Ec
  go_wp2_with fail
  go_ret2
  exact⟨by rw[HQ.o];rfl,Hal.o _⟩
 |some y=>
  rw[hrf]at hm
  obtain⟨f,v⟩:=y
  obtain⟨b,of,sl,rfl,hb,hrg,hiv⟩:=hm
  obtain⟨S,k,t,rfl,hv,h3,h4,h5,h6,h7⟩:=Qet hrf
  obtain⟨S',k',e1,hok,hkd,hrefk,_,hvo,_,hxl⟩:=HV.o v hv
  injection e1 with e1
  injection e1 with e1 e2
  subst e1 e2
  have hpl:(Az v).length<=400:=by
   obtain⟨_,_,_,_,_,_,_,_,hpr,hl⟩:=HV.o v hv
   rw[hpr];exact hl
  have HQv:=Aa (show q=some (fvL S v f)by rw[HQ.o];unfold vfN;rw[hrf];rfl)
  obtain rfl:f.tag=g:=(At h7).1
  obtain⟨fs,hfs,_,hvk,_⟩:=Qgs hvo h5 h6 h3 h4
  have HSs:=Aa (HB.o S k rfl)
  rw[HSs.o]at HS
  have htS:=(Cf h5).1
  have h69:t.sort≠69:=by rw[h6];decide
  have hmem:=(At h7).2
  have hfo:=(hok.1.1 t htS).2.2.1.1 f hmem
  have hkf:=(hfo.2.2.2.2 h69).1
  have hrf2:=hok.2.1 t htS h69 f hmem
  have hgl:f.given.length<=1000:=Nat.le_trans (Fq hfo) (by decide)
  have HK:=Aa (show ∀z∈v.kids,∃u,z.kids=[u]/\Qhy z=u/\Bd u from fun z hz=>by
   rw[hfs]at hz
   obtain⟨p,hp,rfl⟩:=List.mem_map.1 hz
   refine⟨p.2,rfl,rfl,Vi hok.1.1 11 p.1.kind p.2 (hvk p hp) ?_⟩
   have hlp:(Az p.2).length<=(Az v).length:=by
    rw[hfs,Kl]
    have h8:=Bw 44 (fs.map fun p=>Az (Dk p))
    have h9:∀ps:List (Fd × Vl),p∈ps->(Az p.2).length+1<=Dh (ps.map fun p=>Az (Dk p)):=fun ps=>by
     induction ps with
     |nil=>intro h;cases h
     |cons q ps ih=>
      intro h
      rw[List.map_cons,D7]
      rcases List.mem_cons.1 h with rfl|h
      ·have:=Ja p;omega
      have:=ih h;omega
    have:=h9 fs hp
    simp
    omega
   omega)
  clear hrf hv hvo hfs hvk HV HB HI HR h3 h4 h5 h6 h7 hmem hfo htS h69 hpl
  obtain⟨A,c,xs,rfl,hk,hl,hr,_,h⟩:=hiv
  have hkl:v.kids.length=xs.length:=by rw[hk];simp[Bc]
  have hkx:∀m (h1:m<xs.length) (h2:m<v.kids.length),v.kids[m]=xs[m].1:=fun m h1 h2=>by simp[hk,Bc]
  have Hkx:=Aa hkx
  have Hkl:=Aa hkl
  have Hr:=Aa hr
  have H:=Aa h
  clear hk hkx hkl hr h
  unfold Ec
  obtain⟨w2,hw2⟩:∃w2,w2=w1.alloc (.cells #[.int .u8 (v.what.toNat:Int),.string ⟨v.text.toArray⟩,.int .i64 (v.tag:Int),.slice A xs.length c] 68):=⟨_,rfl⟩
  have hb2:Below w1.heap.size w1 w2:=by rw[hw2];exact(Ao _ _).alloc (An _) _
  have hz2:w2.heap.size=w1.heap.size+1:=by rw[hw2];simp
  have y3:w2.cell? ⟨w1.heap.size,3,none⟩=some (.slice A xs.length c):=by rw[hw2];simp
  have HW2:=Aa hw2
  clear hw2
  go_upto_region 4 with fail
  rw[<-HW2.o]
  go_wp2_with fail
  refine(HS.o _).mono ?_
  rintro e w3 ⟨⟨p2,ys,hys,rfl,hisl⟩,hb3⟩
  replace y3:=(hb3.cell (p:=⟨w1.heap.size,3,none⟩) (show w1.heap.size<w2.heap.size by omega)).trans y3
  have hb13:Below w1.heap.size w1 w3:=hb2.trans (hb3.mono hb2.size)
  have HB3:=Aa (Hb1.o.trans (hb13.mono Hb1.o.size))
  have HR3:=Aa (Hr.o.below hb13)
  have H3:=Aa (fun x hx=>(H.o x hx).after hb13)
  have HG3:=Aa (Ah hrg hb hb13)
  have hb':b<w3.heap.size:=Nat.lt_of_lt_of_le hb hb13.size
  subst hys
  have HO:=Aa (fun W (hW:Below w3.heap.size w3 W)=>Rj p2 ys hok f b of W (hisl.isc.below hW) (Ah HG3.o hb' hW) hkf hrf2 hgl)
  obtain⟨pb2,_,_,_,rfl,_⟩:=hisl
  have hz3:=hb13.size
  clear hb2 hb3 hb13 Hr H hrg hb HW2 hok hkd hrefk hkf hrf2 hgl Hb1
  go_wp2_with fail
  go_loopw [36] (fun i wr=>∃m:Nat,i=.int .i64 m/\m<=xs.length/\Hid (Yi v.kids m f.tag)/\Hid (Below w3.heap.size w3 wr)) (fun i _=>xs.length - (intOf i).toNat)
  case atStart=>exact⟨0,rfl,Nat.zero_le _,(show Yi _ _ _ from fun z hz=>by simp at hz),Ao _ _⟩
  case round=>
   obtain⟨m,rfl,hm,Hno,Hbr⟩:=hrel
   have m1:(0:Int)<=(m:Int):=by omega
   by_cases hlt:m<xs.length
   ·have m2:(m:Int)<(xs.length:Int):=by omega
    obtain⟨b9,off,rfl,hb9,d0,d1,d2,d3⟩:=Ea.at_ (HR3.o.below Hbr.o) hlt
    have hkx:=Hkx.o m hlt (by rw[Hkl.o];exact hlt)
    have Hat:=Aa (Hno.o.at_ (by rw[Hkl.o];exact hlt))
    have Hst:=Aa (fun hn=>Hno.o.step (by rw[Hkl.o];exact hlt) hn)
    rw[hkx]at Hat Hst
    have hky:=HK.o xs[m].1 (by rw[<-hkx];exact List.getElem_mem _)
    have hs9:=(H3.o _ (List.getElem_mem hlt)).after Hbr.o
    clear hkx
    generalize xs[m]=z at *
    obtain⟨y,ysl⟩:=z
    simp only at d0 d1 d2 d3 Hat Hst hky hs9
    have hzr:=Hbr.o.size
    have hb9n:¬(b9=wr.heap.size):=by omega
    obtain⟨A7,c7,e7⟩:=hs9.form
    subst e7
    by_cases ht:y.tag=f.tag
    ·have t1:((y.tag:Int) == (f.tag:Int))=true:=by simp[ht]
     obtain⟨u,hu1,hu2,hbd⟩:=hky
     have HQ:=Aa (show q=some (Az u)by
      rw[HQv.o]
      unfold fvL
      rw[Hat.o,if_pos (decide_eq_true ht)]
      simp only
      rw[hu2])
     rw[hu1]at hs9 d3
     obtain⟨A8,c8,zs,e8,hk8,_,hr8,_,h8⟩:=hs9
     have hzl:zs.length=1:=by have:=congrArg List.length hk8;simpa [Bc]using this.symm
     have hz0:0<zs.length:=by omega
     obtain⟨b5,o5,rfl,hb5,g0,g1,g2,g3⟩:=Ea.at_ hr8 hz0
     have hus:=h8 _ (List.getElem_mem hz0)
     have hue:zs[0].1=u:=by
      cases zs with
      |nil=>simp at hz0
      |cons a r=>simp[Bc]at hk8;simp[hk8.1]
     rw[hue]at g0 g1 g2 hus
     generalize zs[0]=zz at *
     obtain⟨_,usl⟩:=zz
     simp only at g3 hus hue
     obtain⟨A6,c6,e6⟩:=hus.form
     subst e6
     injection e8 with e8 e9 e10
     subst e8
     have HP:=Aa (fun W h=>Py (fun c=>w.heap.size<=c) hbd (.slice A6 u.kids.length c6) W h)
     have Hus:=Aa hus
     have hb5n:¬(b5=wr.heap.size):=by omega
     unfold Ec at HP
     simp only[Nat.zero_mul,Nat.add_zero,List.length_singleton]at g0 g1 g2 g3 d3
     clear ht hue hk8 h8 hr8 hus hzl hz0 e9 e10 hu1 hu2 hbd hm Hst Hat Hno
     go_wp2_with fail
     refine(HP.o _ (Hus.o.after ((Ao _ _).alloc (An _) _))).mono ?_
     rintro e w5 ⟨rfl,hb6⟩
     have Hb6:=Aa (HB3.o.trans ((Hbr.o.trans ((((Ao wr.heap.size wr).alloc (An _) _).trans (hb6.mono (by simp))).mono hzr)).mono HB3.o.size))
     clear hb6
     go_wp2_with fail
     go_ret2
     exact⟨by rw[HQ.o];rfl,Hb6.o⟩
    have t1:((y.tag:Int) == (f.tag:Int))=false:=by rw[beq_eq_false_iff_ne];omega
    have Hn2:=Aa (Hst.o (decide_eq_false ht))
    have Hb5:=Aa (Hbr.o.trans (((Ao wr.heap.size wr).alloc (An _) (.cells #[.int .u8 (y.what.toNat:Int),.string ⟨y.text.toArray⟩,.int .i64 (y.tag:Int),.slice A7 y.kids.length c7] 68)).mono hzr))
    clear ht hky hs9 Hst Hat Hno
    go_wp2_with fail
    go_roundw
    case rel=>exact⟨m+1,by go_num,by omega,Hn2.o,Hb5.o⟩
    case measure=>simp[intOf];omega
   ·obtain rfl:m=xs.length:=by omega
    have HQ:=Aa (show q=some (G9 (Ag ys) f)by
     rw[HQv.o]
     unfold fvL
     rw[List.find?_eq_none.2 (fun z hz=>by have:=Hno.o z (by rw[<-Hkl.o,List.take_length];exact hz);simpa using this)])
    have HO:=Aa (HO.o wr Hbr.o)
    unfold Fz at HO
    generalize G9 (Ag ys) f=ov at *
    go_wp2_with fail
    refine HO.o.mono ?_
    rintro e w5 ⟨rfl,hb6⟩
    have Hb6:=Aa (HB3.o.trans ((Hbr.o.trans (hb6.mono Hbr.o.size)).mono HB3.o.size))
    clear hb6
    go_wp2_with fail
    go_ret2
    exact⟨by rw[HQ.o];rfl,Hb6.o⟩
theorem Qmt{s n:List UInt8}{S:List Ty}{t:Ty}(h:tyN s n=some (S,t)):(∀f∈t.fields,f.tag<=200)/\t.fields.length<=8:=by
 unfold tyN at h
 cases hsc:B9 s with
 |none=>rw[hsc]at h;cases h
 |some S'=>
  rw[hsc]at h
  simp only[Option.bind_some]at h
  cases ht:Bk S' n with
  |none=>rw[ht]at h;cases h
  |some t'=>
   rw[ht]at h
   injection h with h
   injection h with h1 h2
   subst h1 h2
   have hto:=(Jy.1 hsc).1.1.1 t' (Cf ht).1
   exact⟨fun f hf=>(hto.2.2.1.1 f hf).2.1,hto.2.2.2.1⟩
theorem Qeq{pp:Prop}(h:pp:=by
  go_wp2_with fail
  go_roundw
  case rel=>exact⟨i+1,by go_num,by omega,HB7.o⟩
  case measure=>simp[intOf];omega):pp:=h
theorem FnLiftField_walk(w:World)(A:Option Addr)(n c:Nat)(l:List UInt8)(h:B0 w A n (Ep l))(hc:n<=c)(hcm:c<=maxLen):
  Calls prog 4 #[.slice A n c] w fun e w'=>e=.returned (.bool true)/\Below w.heap.size w w':=by
 by_cases hn:n<=1048576
 ·have H0:=Aa h
  clear h
  go_enter func4,ntmps4
  go_wp2_with fail
  refine(S6 A n c l w H0.o hc hcm).mono ?_
  rintro e w1 ⟨a,b,c',d,s,rfl,ha,hb,hc',hd,hs,hb1⟩
  have Hb1:=Aa hb1
  clear hb1
  have Hi:=Aa (fun W=>Qep a b c' d s W (by omega) (by omega) (by omega) (by omega) (by omega))
  have Hs:=Aa (fun W=>Qem a b c' d s W (by omega) (by omega) (by omega) (by omega) (by omega))
  unfold Qbr at Hi Hs
  cases hr:Jw (Bm a b) (Bm c' d) s with
  |none=>
   rw[hr]at Hi Hs
   simp only[Qma,Option.isSome_none]at Hi Hs
   clear hr
   go_wp2_with fail
   refine(Hi.o _).mono ?_
   rintro e w2 ⟨rfl,hb2⟩
   have Hb2:=Aa (Hb1.o.trans (hb2.mono Hb1.o.size))
   clear hb2
   go_wp2_with fail
   refine(Hs.o _).mono ?_
   rintro e w3 ⟨rfl,hb3⟩
   have Hb3:=Aa (Hb2.o.trans (hb3.mono Hb2.o.size))
   clear hb3
   go_wp2_with fail
   go_ret
   exact⟨rfl,Hb3.o⟩
  |some r=>
   have hle:=Qd9 hr
   have HL:=Aa (fun g nm kd st x y h1 hp h2 h3=>Qdw (g:=g) (nm:=nm) (kd:=kd) (st:=st) (a:=x) (b:=y) hr h1 hp h2 h3)
   have HK2:=Aa (fun W=>Sa d W (by omega))
   have HK1:=Aa (fun W=>Sa b W (by omega))
   have hk1l:((kNm b).getD []).length<=4000000:=by
    unfold kNm
    cases hk:Cs b with
    |none=>simp
    |some k=>
     have:=Fv (Eg.1 hk).1
     simp only[Option.bind_some]
     split
     ·simp;omega
     simp
   have hk2l:((kNm d).getD []).length<=4000000:=by
    unfold kNm
    cases hk:Cs d with
    |none=>simp
    |some k=>
     have:=Fv (Eg.1 hk).1
     simp only[Option.bind_some]
     split
     ·simp;omega
     simp
   have HT:=Aa (fun W=>Xp c' ((kNm d).getD []) W (by omega) hk2l)
   have HTk:=Aa (fun S t (h:tyN c' ((kNm d).getD [])=some (S,t))=>Qmt h)
   have HF:=Aa (fun g (hg:g<=200) W=>Ts a ((kNm b).getD []) g W (by omega) hk1l (by omega))
   have HA:=Aa (fun g (hg:g<=200) W=>P5 c' d s g W (by omega) (by omega) (by omega) (by omega))
   have HB:=Aa (fun g (hg:g<=200) W=>P5 a b (Az r.1) g W (by omega) (by omega) (by omega) (by omega))
   unfold Qi5 at HA HB
   unfold Qgn at HF
   rw[hr]at Hi Hs
   simp only[Qma,Option.isSome_some]at Hi Hs
   clear hr
   generalize Az r.1=x at *
   generalize tyN c' ((kNm d).getD [])=ot at *
   generalize (kNm d).getD []=n2 at *
   generalize hn1:(kNm b).getD []=n1 at *
   clear hn1
   go_wp2_with fail
   refine(Hi.o _).mono ?_
   rintro e w2 ⟨rfl,hb2⟩
   have Hb2:=Aa (Hb1.o.trans (hb2.mono Hb1.o.size))
   clear hb2
   go_wp2_with fail
   refine(Hs.o _).mono ?_
   rintro e w3 ⟨rfl,hb3⟩
   have Hb3:=Aa (Hb2.o.trans (hb3.mono Hb2.o.size))
   clear hb3
   go_wp2_with fail
   refine(HK2.o _).mono ?_
   rintro e w4 ⟨rfl,hb4⟩
   have Hb4:=Aa (Hb3.o.trans (hb4.mono Hb3.o.size))
   clear hb4
   go_wp2_with fail
   refine(HT.o _).mono ?_
   rintro e w5 ⟨hm,hb5⟩
   have Hb5:=Aa (Hb4.o.trans (hb5.mono Hb4.o.size))
   clear hb5 HK2 HT Hi Hs
   cases ot with
   |none=>
    obtain rfl:=hm
    go_wp2_with fail
    go_loopw [14] (fun i wr=>i=.int .i64 0/\Hid (Below w5.heap.size w5 wr)) (fun _ _=>0)
    case atStart=>exact⟨rfl,Ao _ _⟩
    case round=>
     obtain⟨rfl,Hbr⟩:=hrel
     go_wp2_with fail
     go_ret
     exact⟨rfl,Hb5.o.trans (Hbr.o.mono Hb5.o.size)⟩
   |some y=>
    obtain⟨S,t⟩:=y
    obtain⟨A5,c5,rfl,hrow⟩:=hm
    obtain⟨htk,hl8⟩:=HTk.o S t rfl
    have HTk:=Aa htk
    clear htk
    have Hrow:=Aa hrow
    clear hrow
    simp only
    go_wp2_with fail
    go_loopw [14] (fun i wr=>∃m:Nat,i=.int .i64 m/\m<=t.fields.length/\Hid (Below w5.heap.size w5 wr)) (fun i _=>t.fields.length - (intOf i).toNat)
    case atStart=>exact⟨0,rfl,Nat.zero_le _,Ao _ _⟩
    case round=>
     obtain⟨i,rfl,hi,Hbr⟩:=hrel
     have i1:(0:Int)<=(i:Int):=by omega
     by_cases hlt:i<t.fields.length
     ·have i2:(i:Int)<(t.fields.length:Int):=by omega
      obtain⟨-,-,hrw⟩:=Hrow.o.below Hbr.o
      obtain⟨bA,oA,rfl,hbA,hcs⟩:=hrw (by omega)
      have hc0:=hcs i (.int .i64 (t.fields[i].tag:Int)) (by simp[De,hlt])
      have hg200:=HTk.o _ (List.getElem_mem hlt)
      clear hrw hcs
      generalize t.fields[i].tag=g at *
      have HF:=Aa (HF.o g hg200)
      have HA:=Aa (HA.o g hg200)
      have HB:=Aa (HB.o g hg200)
      have HL:=Aa (HL.o g)
      have hzr:=Hbr.o.size
      obtain⟨nm,kd,st,qb,hqr,hq⟩:∃nm kd st qb,(sfN (tyN a n1) g).getD ([],[],[])=(nm,kd,st)/\(sfN (tyN a n1) g).isSome=qb/\(qb=true->sfN (tyN a n1) g=some (nm,kd,st)):=by
       cases hq:sfN (tyN a n1) g with
       |none=>exact⟨_,_,_,_,rfl,rfl,fun h=>Bool.noConfusion h⟩
       |some y=>exact⟨y.1,y.2.1,y.2.2,true,rfl,rfl,fun _=>rfl⟩
      have HL:=Aa (fun va vb (h1:qb=true) hp h2 h3=>HL.o nm kd st va vb (hq.2 h1) hp h2 h3)
      rw[hqr,hq.1]at HF
      simp only at HF
      clear hq hqr
      go_wp2_with fail
      refine rgB ?_
      iterate 2 refine sq ?_
      refine sqC (fun W _=>HK1.o W) ?_
      iterate 4 refine sq ?_
      refine sqC (fun W _=>HF.o W) ?_
      iterate 9 refine sq ?_
      refine dnB fun w6 HB6=>?_
      replace hc0:=(HB6.o.cell (p:=⟨bA,oA+i,none⟩) hbA).trans hc0
      replace hbA:=Nat.lt_of_lt_of_le hbA HB6.o.size
      have HB6:=Aa (Hbr.o.trans (HB6.o.mono hzr))
      generalize hoa:vfN (Bm c' d) s g=oa at *
      generalize hob:vfN (Bm a b) x g=ob at *
      have HL:=Aa (fun va vb h1 hp (h2:oa=some va) (h3:ob=some vb)=>HL.o va vb h1 hp h2 h3)
      clear Hbr hoa hob
      go_wp2_with fail
      refine(HA.o _).mono ?_
      rintro e w7 ⟨rfl,hb7⟩
      replace hc0:=(hb7.cell (p:=⟨bA,oA+i,none⟩) hbA).trans hc0
      replace hbA:=Nat.lt_of_lt_of_le hbA hb7.size
      have HB7:=Aa (HB6.o.trans (hb7.mono HB6.o.size))
      clear hb7 HA HB6
      go_wp2_with fail
      refine(HB.o _).mono ?_
      rintro e w8 ⟨rfl,hb8⟩
      have HB7:=Aa (HB7.o.trans (hb8.mono HB7.o.size))
      clear hb8 HB hc0 hbA
      go_upto_region 15 with fail
      have t0:True:=Ac
      cases qb with
      |false=>exact Qeq
      |true=>
       cases oa with
       |none=>exact Qeq
       |some va=>
        cases ob with
        |none=>exact Qeq
        |some vb=>
         simp only[Option.getD_some,Option.isSome_some]
         by_cases hp:kd=[110]\/kd=[116]\/kd=[102]
         ·obtain rfl:=HL.o va vb rfl hp rfl rfl
          clear HL
          rcases hp with rfl|rfl|rfl<;>exact Qeq
         have t1:(kd == [110])=false:=by simpa using fun e=>hp (.inl e)
         have t2:(kd == [116])=false:=by simpa using fun e=>hp (.inr (.inl e))
         have t3:(kd == [102])=false:=by simpa using fun e=>hp (.inr (.inr e))
         clear hp HL
         exact Qeq
     ·have i2:¬(i:Int)<(t.fields.length:Int):=by omega
      go_wp2_with fail
      go_ret
      exact⟨rfl,Hb5.o.trans (Hbr.o.mono Hb5.o.size)⟩
 have t1:decide ((1048576:Int)<(n:Int))=true:=decide_eq_true (by omega)
 go_enter func4,ntmps4
 go_wp2_with fail
 go_ret
 exact⟨rfl,Ao _ _⟩
end
section
open Go.ChangeShapes Go.WideShapes Go.ChangeAt Go.RowKit
open Go.ChangeMaps (open_string shut_string)
theorem Yn{α:Type}(l:List α)(d:α){j:Nat}(h:j<l.length):l.getD j d=l[j]:=by simp[List.getD,h]
theorem own:ownKnob prog.godebug=none:=aN
theorem laidOut:laidOutB prog=true:=aN
section
variable {H:Type} {enc:TypeId × Value->H} {W:World} {base:Nat} {v:Value} {d:DataW H} {ps:List MemPlace}
theorem arg_bytes(hv:Value.okWide prog W .any base 22 v)(h:DataW.Trod enc prog W 0 (fun _=>true) true 22 v d ps)(hlt:∀x∈ps,x.block<W.heap.size):
  ∃A n c,∃l:List UInt8,v=.slice A n c/\B0 W A n (Ep l)/\n<=c/\c<=maxLen:=by
 obtain⟨A,n,c,rfl⟩:=okWide_slice underlying22 hv;obtain⟨fuel,hf⟩:=h;rcases open_ints underlying22 underlying5 aN hf with⟨hcs,_⟩|⟨x,n',c',zs,hcs,_,hl,hm,hz,_,hcell,hwz⟩
 ·simp[Value.cells]at hcs;obtain⟨rfl,rfl,rfl⟩:=hcs;exact⟨none,0,0,[],rfl,⟨rfl,ag _,fun h=>absurd h aH⟩,An _,ag _⟩
 simp[Value.cells]at hcs;obtain⟨rfl,rfl,rfl⟩:=hcs;simp at hz;refine⟨some x,n,c,(zs.take n).map fun z=>UInt8.ofNat z.toNat,rfl,⟨by simp[Ep];omega,ad hl hm,fun hn=>?_⟩,hl,hm⟩;have h0:=hcell 0 aH;obtain⟨b,off,spot⟩:=x;have hspot:spot=none:=by simpa [Addr.add]using World.cell?_spot h0
 subst hspot;refine⟨b,off,rfl,?_,fun j u hu=>?_⟩
 ·have:=World.block_lt_of_cell? W _ h0;simpa [Addr.add]using this
 have hj:j<n:=by
  have:=(List.getElem?_eq_some_iff.1 hu).1;simp[Ep]at this;omega
 have h1:=hcell j aH;have e1:(⟨b,off,none⟩:Addr).add j=⟨b,off+j,none⟩:=bD;rw[e1]at h1;rw[h1];have hw:=hwz (zs.getD j 0) (by rw[Yn _ _ aH];exact ae _);have hb2:0<=zs.getD j 0/\zs.getD j 0<=255:=by
  simp[Lit.wf,IntKind.min,IntKind.max,IntKind.signed,IntKind.bits]at hw;simpa using hw
 simp only[Ep,List.getElem?_map,List.getElem?_take]at hu;rw[if_pos hj,List.getElem?_eq_getElem (by omega:j<zs.length)]at hu;simp at hu;rw[<-hu];rw[Yn _ _ (by omega:j<zs.length)]at hb2 ⊢;congr 2
 omega
end
end
end Go.Proofs.YtmmhmlmfhpfgbaaGreatDoor
