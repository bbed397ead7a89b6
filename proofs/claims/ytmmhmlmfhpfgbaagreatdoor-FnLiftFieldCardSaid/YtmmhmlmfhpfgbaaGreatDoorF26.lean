/- Texts joined. Conditions: as each theorem names them. -/
import Derived.Deep.CutRange
import Derived.Deep.DeepCutAuto
import Derived.Test.YtmmhmlmfhpfgbaaGreatDoorF25
import Derived.Test.YtmmhmlmfhpfgbaaGreatDoorF28
set_option maxRecDepth 100000
set_option maxHeartbeats 32000000
set_option linter.unusedVariables false
set_option linter.unusedSimpArgs false
namespace Go.Proofs.YtmmhmlmfhpfgbaaGreatDoor
open Go.RowKit Go.Proofs.Tryz
section
attribute [local go_sem] Qoe Qnf Qmu Qk2 ByteArray.mk_append_mk
theorem Sw:∀(p s:List UInt8),Gq p s=if s.take p.length=p then some (s.drop p.length)else none
 |[],s=>by simp[Gq]
 |c::p,[]=>by simp[Gq,Av]
 |c::p,x::s=>by
  have ih:=Sw p s;unfold Gq;by_cases h:x=c
  ·subst h;simp only[Av,if_true,List.length_cons,List.take_succ_cons,List.drop_succ_cons,List.cons.injEq,true_and];exact ih
  simp[Av,h]
theorem Qj8(S:List Ty)(xv:Value)(hxv:xv.oneCell'=true)(s:List UInt8)(k:Kd)(hs0:k.signs=[])(hb:k.base=[102])(w:World)(hs:s.length<=4000000)(q:Option (Vl × List UInt8))(hq:q=match Qx s with|some (b,r)=>some (.mk 102 (if b then Ev else M5) 0 [],r)|none=>none):
  Calls prog 104 #[.agg #[xv],s,.string ⟨#[102]⟩] w (Bx S k q w):=by
 have hkd:Ax k=[102]:=ct;have Hq:=Aa hq;have Hy:=Aa (Sw Ev s);have Hn:=Aa (Sw M5 s);clear hq hs0 hb;go_enter func104,ntmps104;go_wp2_with fail;go_loop [70] (fun i=>(i=.int .i64 0)\/(i=.int .i64 1/\¬s.take 3=Ev)\/(i=.int .i64 2/\¬s.take 3=Ev/\¬s.take 2=M5)) (fun i=>3 - (intOf i).toNat)
 case atStart=>exact .inl rfl
 case round=>
  obtain rfl|⟨rfl,hny⟩|⟨rfl,hny,hnn⟩:=hrel
  ·by_cases hl:3<=s.length
   ·have hl2:(3:Int)<=(s.length:Int):=aH;by_cases ht:s.take 3=Ev
    ·have HQ:=@Aa (q=some (.mk 102 Ev 0 [],s.drop 3)) (by rw[Hq.o];unfold Qx;rw[Hy.o,if_pos (show s.take Ev.length=Ev from ht)];rfl);generalize hdw:s.drop 3=dw at *;have E2:=Aa hdw;have tb:(s.take 3 == [121,101,115])=true:=by rw[ht];rfl
     clear Hq hdw ht;go_wp2_with fail;have HbW:=Aa (((Ao w.heap.size w).alloc (An _) (.cells #[xv] 79)).alloc aK (.cells #[.string ⟨#[121,101,115]⟩,.string ⟨#[110,111]⟩] 9));refine Jd [87,88,89,90,91,92,93,94,6,7,8]
      (fun ix v W=>match ix with|0=>v=.string ⟨#[102]⟩|1=>v=.string ⟨#[121,101,115]⟩|2=>v=.agg #[.string ⟨#[102]⟩,.string ⟨#[121,101,115]⟩,.slice none 0 0,.slice none 0 0]|3=>∃c,v=.pointer (some ⟨c,0,none⟩)|4=>v=(s:List UInt8)|5=>v=.string ⟨#[121,101,115]⟩|6=>v=.int .i64 3|7=>v=(dw:List UInt8)|8=>∃c,v=.pointer (some ⟨c,0,none⟩)|9=>v=(dw:List UInt8)|10=>v=.bool true|_=>True)
      (fun L U W=>(L 3=false->Below w w W)/\(L 3=true->∃W7,W=W7.alloc (.cells #[.string ⟨#[102]⟩,.string ⟨#[121,101,115]⟩,.slice none 0 0,.slice none 0 0] 148)/\Below w w W7/\U 3=.pointer (some ⟨W7.heap.size,0,none⟩))/\(L 8=true->U 8=U 3)) (⟨fun _=>HbW.o.drew,fun h=>Bool.noConfusion h,fun h=>Bool.noConfusion h⟩) ?_ ?_
     ·exact ie
     rintro L U W hL hφ hR;have hφ10:U 8=U 3:=hR.2.2 (hL 8 aJ);have e11:U 9=(dw:List UInt8):=hφ 9 aJ;have e12:U 10=.bool true:=hφ 10 aJ;clear hφ;obtain⟨_,h2,h3⟩:=hR;obtain⟨W7,rfl,hb7,u5⟩:=h2 (hL 3 aJ);rw[u5]at hφ10;clear hL h2;simp only[hφ10,e11,e12];clear hφ10;go_wp2_with fail;refine aF (v:=.tuple #[.pointer (some ⟨W7.heap.size,0,none⟩),dw,.bool true]) (by simp[results,results104,go_sem]) rfl ?_;have hz7:=hb7.size;have Hb7:=(hb7.alloc aH (.cells #[.string ⟨#[102]⟩,.string ⟨#[121,101,115]⟩,.slice none 0 0,.slice none 0 0] 148))
     rw[HQ.o];refine⟨⟨W7.heap.size,rfl,?_⟩,Hb7⟩;exact lk
    have tb:(s.take 3 == [121,101,115])=false:=by simpa [Ev,M5]using ht
    go_wp2_with fail;go_round
    case rel=>exact .inr (.inl ⟨rfl,ht⟩)
    case measure=>simp[intOf]
   have hl2:¬((3:Int)<=(s.length:Int)):=aH;have ht:¬s.take 3=Ev:=fun h=>hl ft;go_wp2_with fail;go_round
   case rel=>exact .inr (.inl ⟨rfl,ht⟩)
   case measure=>simp[intOf]
  ·by_cases hl:2<=s.length
   ·have hl2:(2:Int)<=(s.length:Int):=aH;by_cases ht:s.take 2=M5
    ·have HQ:=@Aa (q=some (.mk 102 M5 0 [],s.drop 2)) (by rw[Hq.o];unfold Qx;rw[Hy.o,if_neg (show ¬s.take Ev.length=Ev from hny),Hn.o,if_pos (show s.take M5.length=M5 from ht)];rfl);generalize hdw:s.drop 2=dw at *;have E2:=Aa hdw;have tb:(s.take 2 == [110,111])=true:=by rw[ht];rfl
     clear Hq hdw ht;go_wp2_with fail;have HbW:=Aa (((Ao w.heap.size w).alloc (An _) (.cells #[xv] 79)).alloc aK (.cells #[.string ⟨#[121,101,115]⟩,.string ⟨#[110,111]⟩] 9));refine Jd [87,88,89,90,91,92,93,94,6,7,8]
      (fun ix v W=>match ix with|0=>v=.string ⟨#[102]⟩|1=>v=.string ⟨#[110,111]⟩|2=>v=.agg #[.string ⟨#[102]⟩,.string ⟨#[110,111]⟩,.slice none 0 0,.slice none 0 0]|3=>∃c,v=.pointer (some ⟨c,0,none⟩)|4=>v=(s:List UInt8)|5=>v=.string ⟨#[110,111]⟩|6=>v=.int .i64 2|7=>v=(dw:List UInt8)|8=>∃c,v=.pointer (some ⟨c,0,none⟩)|9=>v=(dw:List UInt8)|10=>v=.bool true|_=>True)
      (fun L U W=>(L 3=false->Below w w W)/\(L 3=true->∃W7,W=W7.alloc (.cells #[.string ⟨#[102]⟩,.string ⟨#[110,111]⟩,.slice none 0 0,.slice none 0 0] 148)/\Below w w W7/\U 3=.pointer (some ⟨W7.heap.size,0,none⟩))/\(L 8=true->U 8=U 3)) (⟨fun _=>HbW.o.drew,fun h=>Bool.noConfusion h,fun h=>Bool.noConfusion h⟩) ?_ ?_
     ·exact ie
     rintro L U W hL hφ hR;have hφ10:U 8=U 3:=hR.2.2 (hL 8 aJ);have e11:U 9=(dw:List UInt8):=hφ 9 aJ;have e12:U 10=.bool true:=hφ 10 aJ;clear hφ;obtain⟨_,h2,h3⟩:=hR;obtain⟨W7,rfl,hb7,u5⟩:=h2 (hL 3 aJ);rw[u5]at hφ10;clear hL h2;simp only[hφ10,e11,e12];clear hφ10;go_wp2_with fail;refine aF (v:=.tuple #[.pointer (some ⟨W7.heap.size,0,none⟩),dw,.bool true]) (by simp[results,results104,go_sem]) rfl ?_;have hz7:=hb7.size;have Hb7:=(hb7.alloc aH (.cells #[.string ⟨#[102]⟩,.string ⟨#[110,111]⟩,.slice none 0 0,.slice none 0 0] 148))
     rw[HQ.o];refine⟨⟨W7.heap.size,rfl,?_⟩,Hb7⟩;exact lk
    have tb:(s.take 2 == [110,111])=false:=by simpa [Ev,M5]using ht
    go_wp2_with fail;go_round
    case rel=>exact .inr (.inr ⟨rfl,hny,ht⟩)
    case measure=>simp[intOf]
   have hl2:¬((2:Int)<=(s.length:Int)):=aH;have ht:¬s.take 2=M5:=fun h=>hl ft;go_wp2_with fail;go_round
   case rel=>exact .inr (.inr ⟨rfl,hny,ht⟩)
   case measure=>simp[intOf]
  ·have HQ:=@Aa (q=none) (by rw[Hq.o];simp only[Qx,Hy.o,Hn.o,if_neg (show ¬s.take Ev.length=Ev from hny),if_neg (show ¬s.take M5.length=M5 from hnn)]);clear Hq;go_wp2_with fail;refine aF (v:=.tuple #[.pointer none,s,.bool false]) (by simp[results,results104,go_sem]) rfl ?_;exact Bx.no HQ.o rfl (((Ao w.heap.size w).alloc (An _) _).alloc aK _)
def SrC(w0:World)(S:List Ty)(xv:Value)(k:Kd)(d:Nat):Prop:=∀(s:List UInt8) (W:World),Below w0 w0 W->s.length<=1000000 ->
 Calls prog 105 #[.agg #[xv],s,.string ⟨(Ax k).toArray⟩,(d:Int)] W (Bx S k (Ar S 20 d k s) W)
def Qhc(K:List UInt8->Option (Vl × List UInt8))(s:List UInt8):Option (Vl × List UInt8):=match Av 93 s with
 |some z=>some (.mk 91 [] 0 [],z)
 |none=>match Db K 20 s with|some (vs,z)=>some (.mk 91 [] 0 vs,z)|none=>none
structure Qnw(w:World)(xv h0 h1:Value)(S:List Ty)(k:Kd)(K:List UInt8->Option (Vl × List UInt8))(s:List UInt8)(wr:World)(v:Value)(xs:List (Nat × SV))(vs:List Vl)(tt:List UInt8):Prop where
 bel:Below w w wr
 st:Ee (w.heap.size+2) (w.heap.size+1) wr h0 h1 (.slice none 0 0) (.slice none 0 0) v v [] xs
 box:wr.cell? (w,0)=some xv
 len:xs.length=vs.length
 eq:xs.map (·.2)=vs.map (Cd S k.part)
 it:Db K 20 s=Sn vs (Db K (20 - vs.length) tt)
 le:tt.length<=s.length
theorem Qhx(w0:World)(S:List Ty)(xv:Value)(hxv:xv.oneCell'=true)(k:Kd)(sg:List UInt8)(hsg:k.signs=91::sg)(hkl:(Ax k).length<=100)(d:Nat)(hd:d<=1000)(s:List UInt8)(w:World)(hw:Below w0 w0 w)(hs:s.length<=1000000)
  (H:SrC w0 S xv k.part d) (HG:∀s v r,Ar S 20 d k.part s=some (v,r)->s=Az v++r) (q:Option (Vl × List UInt8)) (hq:q=Qhc (Ar S 20 d k.part) s):
  Calls prog 159 #[.agg #[xv],.string ⟨s.toArray⟩,.string ⟨(Ax k).toArray⟩,.int .i64 ((d+1:Nat):Int)] w (Bx S k q w):=by
 have hkp:Ax k=91::Ax k.part:=dD;have HQ:=Aa hq;have HH:=Aa H;have HG:=Aa HG;have HW:=Aa hw;have Hsv:=Aa (fun ks=>hkp ▸ Qn S k ks);have hkl2:(Ax k.part).length<=100:=by rw[hkp]at hkl;simp at hkl;omega
 rw[hkp];generalize hkk:Ax k.part=kp at *;have Hkk:=Aa hkk;have ed:(((d+1:Nat):Int)) - 1=(d:Int):=aH;have ed2:(((d+1:Nat):Int))<=1001:=aH;have ed3:(0:Int)<=(((d+1:Nat):Int)):=aH;generalize (((d+1:Nat):Int))=dd at *;clear H hw hq hkp hkl hkk hsg;by_cases h93:∃z,s=93::z
 ·obtain⟨z,rfl⟩:=h93;go_enter func159,ntmps159;go_wp2_with fail;go_quiet (fail)
  go_wp2_with fail;refine aF (v:=.tuple #[(w,1,0),.string ⟨z.toArray⟩,.bool true]) (by simp[results,results159,go_sem]) rfl ?_;rw[HQ.o,show Qhc (Ar S 20 d k.part) (93::z)=some (.mk 91 [] 0 [],z)from by simp[Qhc,Av]];have hl:=Fl.leaf (P:=fun c=>w.heap.size<=c) (w:=w.alloc (.cells #[xv] 79)) (kind:=91::kp) (text:=[]) (T:=148) aK;refine⟨⟨w.heap.size+1,rfl,?_⟩,below_drewN (((Ao w.heap.size w).alloc (An _) _).alloc aK _) _⟩;rw[Hsv.o];have hl2:Fl (fun c=>w.heap.size<=c) ((w.alloc (.cells #[xv] 79)).alloc (.cells #[(91::kp:List UInt8),a6,.slice none 0 0,.slice none 0 0] 148)) (w.heap.size+1) (.mk (91::kp) [] [] []):=fN;exact hl2.after (below_drewN (Ao _ _) _)
 have hne:Av 93 s=none:=by
  cases s with
  |nil=>rfl
  |cons c z=>exact Dm (fun e=>h93 ⟨z,by rw[e]⟩) z
 have HQ2:=@Aa (q=match Db (Ar S 20 d k.part) 20 s with|some (vs,z)=>some (.mk 91 [] 0 vs,z)|none=>none) (by rw[HQ.o];unfold Qhc;rw[hne])
 have Hst:=Aa (show Ee (w.heap.size+2) (w.heap.size+1) ((w.alloc (.cells #[xv] 79)).alloc (.cells #[(91::kp:List UInt8),a6,.slice none 0 0,.slice none 0 0] 148)) (91::kp:List UInt8) a6 (.slice none 0 0) (.slice none 0 0) (.slice none 0 0) (.slice none 0 0) [] []from by
  have:=Ee.new (W:=w.alloc (.cells #[xv] 79)) (T:=148) (91::kp:List UInt8) a6;simpa using this)
 have hc0:s≠[]->∀h,((s[0]'h).toNat:Int)≠93:=by
  intro hn h e;cases s with
  |nil=>exact hn rfl
  | cons c z => exact h93 ⟨z, by have:c=93:=by apply UInt8.toNat_inj.1;simpa using(by exact_mod_cast e:c.toNat=93)
                                 rw[this]⟩
 clear h93 hne;obtain⟨W1,hW1⟩:∃W1,W1=(w.alloc (.cells #[xv] 79)).alloc (.cells #[(91::kp:List UInt8),a6,.slice none 0 0,.slice none 0 0] 148):=⟨_,rfl⟩
 have Hb1:=@Aa (Below w w W1) (by rw[hW1];exact((Ao w.heap.size w).alloc (An _) _).alloc aK _);have Hx1:=@Aa (W1.cell? (w,0)=some xv) dx;rw[<-hW1]at Hst;go_enter func159,ntmps159;go_upto_region 2 with fail
 rw[<-hW1];clear hW1;go_cut [1,24]from 18 to 27 (fun s0 bt wx=>s0=.string ⟨s.toArray⟩/\bt=.bool false/\wx=W1)
 case first=>
  by_cases hs0:s=[]
  ·have he:s.isEmpty=true:=by rw[hs0];rfl
   clear hs0 hc0;go_wp2_with fail;go_meet
   exact⟨rfl,rfl,rfl⟩
  ·have he:s.isEmpty=false:=by cases s with|nil=>exact absurd rfl hs0|cons c z=>rfl
   have hs1:0<s.length:=by cases s with|nil=>exact absurd rfl hs0|cons c z=>simp
   have hs2:(((s[0]'hs1).toNat:Int) == 93)=false:=by simpa using hc0 hs0 hs1
   clear hs0 hc0;go_wp2_with fail;go_meet
   exact⟨rfl,rfl,rfl⟩
 case rest=>
  clear hc0;obtain⟨rfl,rfl,rfl⟩:=hcut;have L0:=@Aa (Qnw w xv (91::kp:List UInt8) a6 S k (Ar S 20 d k.part) s wc (.slice none 0 0) [] [] s) ⟨Hb1.o,Hst.o,Hx1.o,rfl,rfl,by cases h:Db (Ar S 20 d k.part) 20 s<;>simp[Sn,h],An _⟩;clear Hb1 Hst Hx1;go_wp2_with fail;go_loopw [1] (fun s0 wr=>∃(A:Option Addr) (c:Nat) (xs:List (Nat × SV)) (vs:List Vl) (tt:List UInt8),s0=tt/\tt.length<=s.length/\Hid (Qnw w xv (91::kp:List UInt8) a6 S k (Ar S 20 d k.part) s wr (.slice A xs.length c) xs vs tt)) (fun s0 _=>S1 s0)
  case atStart=>exact⟨none,0,[],[],s,rfl,An _,L0.o⟩
  case round=>
   obtain⟨A,c,xs,vs,tt,rfl,htl,HL⟩:=hrel;have c3:=HL.o.st.c3;have c0:=HL.o.box;have hlt:=HL.o.st.lt;by_cases h20:xs.length<20
   ·have t20:decide ((xs.length:Int)<20)=true:=aD aH;have HC:=@Aa (∀W,Below w0 w0 W->Calls prog 105 #[.agg #[xv],tt,kp,(d:Int)] W (Bx S k.part (Ar S 20 d k.part tt) W)) (fun W hW=>by have:=HH.o tt W hW aH;rw[Hkk.o]at this;exact this);have HWr:=@Aa (Below w0 w0 wr.drew) ((HW.o.trans (HL.o.bel.mono HW.o.size)).drew);have t20i:(xs.length:Int)<20:=aH;have hx20:xs.length<=19:=aH;have hl0:w.heap.size<wr.heap.size:=aH;have d1:(0:Int)<=(d:Int):=aH;have d2:(d:Int)<=1000:=aH;have hwd:IntKind.i64.wrap (d:Int)=(d:Int):=IntWalk.i64_in _ aH;clear t20 h20;go_wp2_with fail;refine rgT (SrQ wr.drew S k.part (Ar S 20 d k.part tt)) 6 7 (fun W vp vr vk h=>h.1) ?_;iterate 3 refine sq ?_
    refine sqS kp ?_;iterate 2 refine sq ?_
    refine sqK (HC.o _ HWr.o) ?_;refine sqM ?_;iterate 3 refine sqP ?_
    iterate 3 refine sqA ?_
    intro l u W hl _ hR;obtain⟨vp,vr,vk,hq5,ua,ub,ue⟩:=RK.fin hR hl aJ aJ;simp only[Nat.reduceAdd]at ua ub ue;simp only[ua,ub,ue];clear hR hl ua ub ue;obtain⟨hb5,hm⟩:=hq5;have HB5:=@Aa (Below wr wr W) ((Ao _ _).drew.trans hb5);have HS5:=Aa (HL.o.st.after HB5.o);have Hw5:=Aa (HL.o.bel.trans (HB5.o.mono HL.o.bel.size));have Hx5:=@Aa (W.cell? (w,0)=some xv) ((HB5.o.cell (p:=⟨w.heap.size,0,none⟩) (by show w.heap.size<wr.heap.size;omega)).trans c0);have hz5:=hb5.size;have Hit:=@Aa (Db (Ar S 20 d k.part) 20 s=Sn vs (Db (Ar S 20 d k.part) (19 - vs.length+1) tt)) (by rw[HL.o.it];congr 2;have:=HL.o.len;omega);clear c3 c0 hb5;cases hk:Ar S 20 d k.part tt with
    |none=>
     rw[hk]at hm;obtain⟨⟨q0,rfl⟩,⟨r0,rfl⟩,rfl⟩:=hm;have HN:=@Aa (q=none) (by rw[HQ2.o,Hit.o];unfold Db;rw[hk];simp[Sn]);clear hk;go_wp2_with fail;refine aF (v:=.tuple #[.pointer none,tt,.bool false]) (by simp[results,results159,go_sem]) rfl ?_;exact Bx.no HN.o rfl Hw5.o
    |some y=>
     obtain⟨v,r⟩:=y;rw[hk]at hm;obtain⟨⟨b,rfl,hsv⟩,rfl,rfl⟩:=hm;have hrl:r.length<=tt.length:=by rw[HG.o tt v r hk];simp
     have Hsv5:=Aa (show Fl (fun c1=>w.heap.size+2<=c1/\(Value.slice A xs.length c).ownBlock≠some c1/\(Value.slice none 0 0).ownBlock≠some c1) W b (Cd S k.part v)from by
      refine hsv.mono fun c1 hc _=>⟨ad HL.o.st.bs hc,fun e=>?_,by simp[Value.ownBlock]⟩
      have h1:=(HL.o.st.row.lt c1 e).2;have h2:wr.heap.size<=c1:=hc;omega)
     have HI:=@Aa (Db (Ar S 20 d k.part) 20 s=Sn vs (match Av 44 r with|some q=>(match Db (Ar S 20 d k.part) (19 - vs.length) q with|some (vs,z)=>some (v::vs,z)|none=>none)|none=>match Av 93 r with|some q=>some ([v],q)|none=>none)) (by rw[Hit.o];simp only[Db,hk];rfl);clear hk hsv;cases r with
     |nil=>
      have HN:=@Aa (q=none) (by rw[HQ2.o,HI.o];simp[Av,Sn]);go_wp2_with fail;refine aF (v:=.tuple #[.pointer none,tt,.bool false]) (by simp[results,results159,go_sem]) rfl ?_;exact Bx.no HN.o rfl Hw5.o
     |cons c9 z=>
      by_cases hcc:c9=44\/c9=93
      ·obtain⟨b4,b9,h4,h9,hbb⟩:∃b4 b9,((c9.toNat:Int) != 44)=b4/\((c9.toNat:Int) == 93)=b9/\((b4=false/\b9=false/\c9=44)\/(b4=true/\b9=true/\c9=93)):=by
        rcases hcc with rfl|rfl
        ·exact⟨false,false,rfl,rfl,.inl ⟨rfl,rfl,rfl⟩⟩
        exact⟨true,true,rfl,rfl,.inr ⟨rfl,rfl,rfl⟩⟩
       have h7:((c9.toNat:Int) != 93)=!b9:=by rw[<-h9];rfl
       have s3:=HS5.o.c3;have s4:=HS5.o.lt;clear hcc;rcases hbb with⟨rfl,rfl,hc9⟩|⟨rfl,rfl,hc9⟩;all_goals
        simp only[Bool.not_true,Bool.not_false]at h7;have HC9:=Aa hc9;clear hc9;go_wp2_with (at_builtin;go_loud (refine Ff _ rfl _ _ 146 rfl (w.heap.size+2) 76 (.pointer none) 8 underlying146 So rfl W b rfl rfl (.slice A xs.length c) xs.length (Dx (xs.map (·.1))) rfl rfl HS5.o.row aU aH HS5.o.bs ?_;intro v6 w6 hown6 hg6 hwh6;obtain⟨A6,c6,e6,hS6,hb6⟩:=HS5.o.push (x:=(b,Cd S k.part v)) Hsv5.o hown6 hg6 hwh6;subst e6;have HS6:=Aa hS6;have HB6:=Aa hb6;have p3:=hS6.c3;have f3:=hS6.bk.live 3;have hz6:=hS6.lt;clear hS6 hb6 hown6 hg6 hwh6))
        have hw6:=HB6.o.mono (show w.heap.size<=w.heap.size+2 by omega);have Hbel:=Aa ((Hw5.o.trans hw6).setCell (p:=⟨w.heap.size+1,3,none⟩) (show w.heap.size<=w.heap.size+1 by omega) (.slice A6 (xs++[(b,Cd S k.part v)]).length c6));have Hst7:=Aa HS6.o.set3;have Hbx7:=Aa ((Am w6 (w.heap.size+1) 3 (.slice A6 (xs++[(b,Cd S k.part v)]).length c6)).cell ((HB6.o.cell (p:=⟨w.heap.size,0,none⟩) (show w.heap.size<w.heap.size+2 by omega)).trans Hx5.o) aK);have Heq7:=@Aa ((xs++[(b,Cd S k.part v)]).map (·.2)=(vs++[v]).map (Cd S k.part)) (by simp[HL.o.eq]);have el:(xs++[(b,Cd S k.part v)]).length=xs.length+1:=aK;rw[el]at Hbel Hst7 Hbx7
       ·have Hit7:=Aa (show Db (Ar S 20 d k.part) 20 s=Sn (vs++[v]) (Db (Ar S 20 d k.part) (20 - (vs++[v]).length) z)from by
         rw[HI.o,show 20 - (vs++[v]).length=19 - vs.length by simp,HC9.o,Bv];simp only;cases Db (Ar S 20 d k.part) (19 - vs.length) z<;>simp[Sn])
        have Hlen7:=@Aa ((xs++[(b,Cd S k.part v)]).length=(vs++[v]).length) (by simp[HL.o.len]);simp only[List.length_cons]at hrl;go_roundw
        case rel=>exact⟨A6,c6,_,vs++[v],z,rfl,by omega,⟨Hbel.o,by rw[el];exact Hst7.o,Hbx7.o,Hlen7.o,Heq7.o,Hit7.o,by omega⟩⟩
        case measure=>simp[S1,ByteArray.size];omega
       have HY:=@Aa (q=some (.mk 91 [] 0 (vs++[v]),z)) (by rw[HQ2.o,HI.o,HC9.o,Dm aJ,Bv];simp[Sn]);refine aF (v:=.tuple #[(w,1,0),.string ⟨z.toArray⟩,.bool true]) (by simp[results,results159,go_sem]) rfl ?_;rw[HY.o];refine⟨⟨w.heap.size+1,rfl,?_⟩,Hbel.o⟩;rw[Hsv.o,<-Heq7.o];have hd:=Hst7.o.done (kind:=91::kp) (text:=[]) aK aM;exact hd.mono fun c1 hc _=>by have:w.heap.size+1<=c1:=hc;show w.heap.size<=c1;omega
      have hc4:c9≠44:=fun e=>hcc (.inl e);have hc9:c9≠93:=fun e=>hcc (.inr e);have HN:=@Aa (q=none) (by rw[HQ2.o,HI.o,Dm hc4,Dm hc9];simp[Sn]);have t44:((c9.toNat:Int) != 44)=true:=by have:=Ap hc4;simpa using this
      have t93:((c9.toNat:Int) != 93)=true:=by have:=Ap hc9;simpa using this
      clear hc4 hc9 hcc;go_wp2_with fail;refine aF (v:=.tuple #[.pointer none,tt,.bool false]) (by simp[results,results159,go_sem]) rfl ?_;exact Bx.no HN.o rfl Hw5.o
   ·have t20:decide ((xs.length:Int)<20)=false:=aC aH;go_wp2_with fail;refine aF (v:=.tuple #[.pointer none,tt,.bool false]) (by simp[results,results159,go_sem]) rfl ?_;refine Bx.no ?_ rfl HL.o.bel;have h0:=HL.o.it;rw[show 20 - vs.length=0 by have:=HL.o.len;omega]at h0;rw[HQ2.o,h0];simp[Db,Sn]
theorem SrQ.post{S:List Ty}{k:Kd}{o:Option (Vl × List UInt8)}{w w1 w':World}{vp vr vk:Value}(hb:Below w w w1)(h:SrQ w1 S k o w' vp vr vk):Bx S k o w (.returned (.tuple #[vp,vr,vk])) w':=by
 obtain⟨h1,h2⟩:=h;refine⟨?_,hb.trans (h1.mono hb.size)⟩;cases o with
 |none=>obtain⟨⟨q,rfl⟩,⟨r,rfl⟩,rfl⟩:=h2;exact⟨q,r,rfl⟩
 |some x=>obtain⟨⟨b,rfl,hs⟩,rfl,rfl⟩:=h2;exact⟨b,rfl,hs.mono fun c hc _=>ad hb.size hc⟩
theorem Qhu(S:List Ty)(m d:Nat)(k:Kd)(hs0:k.signs=[])(hb:k.base=[110]\/k.base=[116]\/k.base=[102]):Ar S m (d+1) k []=none:=by
 unfold Ar;rw[hs0];rcases hb with hb|hb|hb<;>rw[hb]<;>rfl
theorem Qdd(S:List Ty)(xv:Value)(hxv:xv.oneCell'=true)(k:Kd)(hs0:k.signs=[])(hb:k.base=[110]\/k.base=[116]\/k.base=[102])(d:Nat)(hd:d<=1000)(s:List UInt8)(w:World)(hs:s.length<=1000000):
  Calls prog 105 #[.agg #[xv],s,.string ⟨(Ax k).toArray⟩,.int .i64 ((d+1:Nat):Int)] w (Bx S k (Ar S 20 (d+1) k s) w):=by
 have HN:=Aa (Qhu S 20 d k hs0 hb);have d1:¬((((d+1:Nat):Int))<1):=aH;have d2:(((d+1:Nat):Int))<=1001:=aH;by_cases hne:s=[]
 ·subst hne;generalize hq:Ar S 20 (d+1) k []=q at *
  have hk2:∃kb:List UInt8,kb.length<=20/\Ax k=kb:=⟨_,by
   have:Ax k=k.base:=by unfold Ax Bu;rw[hs0];rcases hb with hb|hb|hb<;>rw[hb]<;>rfl
   rw[this];rcases hb with hb|hb|hb<;>rw[hb]<;>decide,rfl⟩
  obtain⟨kb,hkl,hkb⟩:=hk2;rw[hkb];generalize (((d+1:Nat):Int))=dd at *;clear hq hb hs0 hkb;go_enter func105,ntmps105;go_wp2_with fail;refine aF (v:=.tuple #[.pointer none,a6,.bool false]) (by simp[results,results105,go_sem]) rfl ?_;exact lB
 have he:s.isEmpty=false:=df;have HP:∀W,Calls prog 104 #[.agg #[xv],s,.string ⟨(Ax k).toArray⟩] W (Bx S k (Ar S 20 (d+1) k s) W):=by
  intro W;rcases hb with hb|hb|hb
  ·have hk:Ax k=[110]:=ct;rw[hk];exact Qi6 S xv hxv s k hs0 hb W aH _ fC
  ·have hk:Ax k=[116]:=ct;rw[hk];exact Qiy S xv hxv s k hs0 hb W aH hne _ fC
  have hk:Ax k=[102]:=ct;rw[hk];exact Qj8 S xv hxv s k hs0 hb W aH _ fC
 have hk2:∃kb:UInt8,(kb=110\/kb=116\/kb=102)/\Ax k=[kb]:=by
  rcases hb with hb|hb|hb
  ·exact⟨110,.inl rfl,by unfold Ax Bu;rw[hs0,hb];rfl⟩
  ·exact⟨116,.inr (.inl rfl),by unfold Ax Bu;rw[hs0,hb];rfl⟩
  exact⟨102,.inr (.inr rfl),by unfold Ax Bu;rw[hs0,hb];rfl⟩
 obtain⟨kb,hkl,hkb⟩:=hk2;rw[hkb]at HP ⊢;generalize hq:Ar S 20 (d+1) k s=q at *;generalize (((d+1:Nat):Int))=dd at *;have HP:=Aa HP;clear hq hb hs0 hkb hne;rcases hkl with rfl|rfl|rfl<;>
 ·go_enter func105,ntmps105;go_wp2_with fail;refine(HP.o _).mono ?_;rintro e w5 hp;obtain⟨vp,vr,vk,rfl,hq5⟩:=hp.q;have Hq5:=Aa hq5;clear hq5 hp;go_wp2_with fail;refine aF (v:=.tuple #[vp,vr,vk]) (by simp[results,results105,go_sem]) rfl ?_;exact Hq5.o.post ((Ao _ _).alloc (An _) _)
theorem Yj(K:List UInt8->Option (Vl × List UInt8)):∀(m:Nat) (s:List UInt8) (vs:List Vl) (q:List UInt8),Db K m s=some (vs,q)->vs.length<=m
 |0,s,vs,q,h=>by simp[Db]at h
 |m+1,s,vs,q,h=>by
  unfold Db at h;cases hk:K s with
  |none=>rw[hk]at h;cases h
  |some y=>
   rw[hk]at h;simp only at h;cases h1:Av 44 y.2 with
   |some z=>
    rw[h1]at h;simp only at h;cases h2:Db K m z with
    |none=>rw[h2]at h;cases h
    |some x=>
     rw[h2]at h;injection h with h;injection h with h _;have:=Yj K m z x.1 x.2 h2;rw[<-h];simp;omega
   |none=>
    rw[h1]at h;simp only at h;cases h2:Av 93 y.2 with
    |none=>rw[h2]at h;cases h
    |some z=>rw[h2]at h;injection h with h;injection h with h _;rw[<-h];simp
theorem Qhv(K:List UInt8->Option (Vl × List UInt8))(z:List UInt8):Xx K 20 (91::z)=Qhc K z:=by
 unfold Xx Qhc;rw[Bv];simp only;cases Av 93 z with
 |some q=>rfl
 |none=>
  simp only;cases h:Db K 20 z with
  |none=>rfl
  |some x=>simp[Yj K 20 z x.1 x.2 h]
theorem Qhr(w0:World)(S:List Ty)(xv:Value)(hxv:xv.oneCell'=true)(k:Kd)(sg:List UInt8)(hsg:k.signs=91::sg)(hkl:(Ax k).length<=100)(d:Nat)(hd:d<=1000)(s:List UInt8)(w:World)(hw:Below w0 w0 w)(hs:s.length<=1000000)
  (H:SrC w0 S xv k.part d) (HG:∀s v r,Ar S 20 d k.part s=some (v,r)->s=Az v++r):
  Calls prog 105 #[.agg #[xv],.string ⟨s.toArray⟩,.string ⟨(Ax k).toArray⟩,.int .i64 ((d+1:Nat):Int)] w (Bx S k (Ar S 20 (d+1) k s) w):=by
 have hq:Ar S 20 (d+1) k s=Xx (Ar S 20 d k.part) 20 s:=by unfold Ar;rw[hsg];rfl
 have HN:=@Aa (Av 91 s=none->Ar S 20 (d+1) k s=none) (fun h=>by rw[hq];unfold Xx;rw[h])
 have HC:=Aa (show ∀z,s=91::z->∀W,Below w0 w0 W->Calls prog 159 #[.agg #[xv],.string ⟨z.toArray⟩,.string ⟨(Ax k).toArray⟩,.int .i64 ((d+1:Nat):Int)] W (Bx S k (Ar S 20 (d+1) k s) W)from by
  rintro z rfl W hW;exact Qhx w0 S xv hxv k sg hsg hkl d hd z W hW gE H HG _ (by rw[hq,Qhv]))
 have hkp:Ax k=91::Ax k.part:=dD;have d1:¬((((d+1:Nat):Int))<1):=aH;have d2:(((d+1:Nat):Int))<=1001:=aH;have HW:=@Aa (Below w0 w0 (w.alloc (.cells #[xv] 79)).drew) ((hw.alloc hw.size _).drew);rw[hkp]at HC hkl ⊢;generalize Ax k.part=kp at *;generalize Ar S 20 (d+1) k s=q at *;generalize (((d+1:Nat):Int))=dd at *;have hkl2:kp.length<=100:=dB;clear H HG hq hkp hsg hkl hw hd;cases s with
 |nil=>
  have HN:=Aa (HN.o rfl);go_enter func105,ntmps105;go_wp2_with fail;refine aF (v:=.tuple #[.pointer none,a6,.bool false]) (by simp[results,results105,go_sem]) rfl ?_;exact lB
 |cons c z=>
  by_cases hc:c=91
  ·subst hc;have HC:=Aa (fun W=>HC.o z rfl W);go_enter func105,ntmps105;go_wp2_with fail;generalize hwg:World.alloc w _=W1;have p0:W1.cell? (w,0)=some xv:=by rw[<-hwg];simp[go_sem]
   have hl0:w.heap.size<W1.heap.size:=by rw[<-hwg];simp
   have Hb1:=@Aa (Below w w W1) (by rw[<-hwg];exact(Ao _ _).alloc (An _) _);rw[hwg]at HW;clear hwg;refine rgT (SrQ W1.drew S k q) 5 5 (fun W vp vr vk h=>h.1) ?_;iterate 2 refine sq ?_
   refine sqS (.string ⟨z.toArray⟩) ?_;iterate 2 refine sq ?_
   refine Qnv (HC.o _ HW.o) ?_;iterate 3 refine sqP ?_
   iterate 3 refine sqA ?_
   intro l u W hl _ hR;obtain⟨vp,vr,vk,hq5,ua,ub,ue⟩:=RK.fin hR hl aJ aJ;simp only[Nat.reduceAdd]at ua ub ue;simp only[ua,ub,ue];clear hR hl ua ub ue;have Hq5:=Aa hq5;clear hq5;go_wp2_with fail;refine aF (v:=.tuple #[vp,vr,vk]) (by simp[results,results105,go_sem]) rfl ?_;exact Hq5.o.post Hb1.o.drew
  have HN:=Aa (HN.o (Dm hc z));have hcn:((c.toNat:Int) != 91)=true:=by have:=Ap hc;simpa using this
  clear hc;go_enter func105,ntmps105;go_wp2_with fail;refine aF (v:=.tuple #[.pointer none,.string ⟨(c::z:List UInt8).toArray⟩,.bool false]) (by simp[results,results105,go_sem]) rfl ?_;exact lB
theorem Qip(w0:World)(S:List Ty)(xv:Value)(hxv:xv.oneCell'=true)(k:Kd)(sg:List UInt8)(hsg:k.signs=63::sg)(hkl:(Ax k).length<=100)(d:Nat)(hd:d<=1000)(s:List UInt8)(w:World)(hw:Below w0.heap.size w0 w)(hs:s.length<=1000000)
  (H:SrC w0 S xv k.part d):
  Calls prog 105 #[.agg #[xv],.string ⟨s.toArray⟩,.string ⟨(Ax k).toArray⟩,.int .i64 ((d+1:Nat):Int)] w (Bx S k (Ar S 20 (d+1) k s) w):=by
 have hq:Ar S 20 (d+1) k s=Qd4 (Ar S 20 d k.part) s:=by unfold Ar;rw[hsg];rfl
 have HN:=Aa (show Av 45 s=none->Av 43 s=none->Ar S 20 (d+1) k s=none from fun h h2=>by rw[hq];unfold Qd4;rw[h];simp only;rw[h2])
 have HM:=Aa (show ∀z,s=45::z->Ar S 20 (d+1) k s=some (.mk 63 [] 0 [],z)from by rintro z rfl;rw[hq];rfl)
 have HP:=Aa (show ∀z,s=43::z->Ar S 20 (d+1) k s=match Ar S 20 d k.part z with|some (v,q)=>some (.mk 63 [] 0 [v],q)|none=>none from by rintro z rfl;rw[hq];rfl)
 have hkp:Ax k=63::Ax k.part:=by unfold Ax Kd.part;rw[hsg];rfl
 have Hsv:=Aa (fun ks=>hkp ▸ Kq S k ks)
 have HC:=Aa (show ∀z,z.length<=1000000->∀W,Below w0.heap.size w0 W->Calls prog 105 #[.agg #[xv],.string ⟨z.toArray⟩,.string ⟨(Ax k.part).toArray⟩,.int .i64 (d:Int)] W (Bx S k.part (Ar S 20 d k.part z) W)from fun z hz W hW=>H z W hW hz)
 have d1:¬((((d+1:Nat):Int))<1):=by omega
 have d2:(((d+1:Nat):Int))<=1001:=by omega
 have d3:(((d+1:Nat):Int)) - 1=(d:Int):=by omega
 have d4:(0:Int)<=(d:Int):=by omega
 have d5:(d:Int)<=1000:=by omega
 have hwd:IntKind.i64.wrap (d:Int)=(d:Int):=IntWalk.i64_in _ (by omega)
 have HW:=Aa (show Below w0.heap.size w0 (w.alloc (.cells #[xv] 79)).drew from(hw.alloc hw.size _).drew)
 rw[hkp]at hkl ⊢
 generalize Ax k.part=kp at *
 generalize Ar S 20 (d+1) k s=q at *
 generalize (((d+1:Nat):Int))=dd at *
 have hkl2:kp.length<=100:=by simp at hkl;omega
 clear H hq hkp hsg hkl hw hd
 cases s with
 |nil=>
  have HN:=Aa (HN.o rfl rfl)
  go_enter func105,ntmps105
  go_wp2_with fail
  refine bodyPost_ret (v:=.tuple #[.pointer none,.string ⟨#[]⟩,.bool false]) (by simp[results,results105,go_sem]) rfl ?_
  exact Bx.no HN.o rfl ((Ao _ _).alloc (An _) _)
 |cons c z=>
  by_cases hc:c=45
  ·subst hc
   have HM:=Aa (HM.o z rfl)
   go_enter func105,ntmps105
   go_wp2_with fail
   refine Jd [43,44,45,46,47,8,9,10]
    (fun ix v W=>match ix with|0=>v=.string ⟨(63::kp:List UInt8).toArray⟩|1=>v=.agg #[.string ⟨(63::kp:List UInt8).toArray⟩,.string ⟨#[]⟩,.slice none 0 0,.slice none 0 0]|2=>∃c,v=.pointer (some ⟨c,0,none⟩)|3=>v=.string ⟨(45::z:List UInt8).toArray⟩|4=>v=.string ⟨(z:List UInt8).toArray⟩|5=>∃c,v=.pointer (some ⟨c,0,none⟩)|6=>v=.string ⟨(z:List UInt8).toArray⟩|7=>v=.bool true|_=>True)
    (fun L U W=>(L 2=false->Below w.heap.size w W)/\(L 2=true->∃W7,W=W7.alloc (.cells #[.string ⟨(63::kp:List UInt8).toArray⟩,.string ⟨#[]⟩,.slice none 0 0,.slice none 0 0] 148)/\Below w.heap.size w W7/\U 2=.pointer (some ⟨W7.heap.size,0,none⟩))/\(L 5=true->U 5=U 2)) (⟨fun _=>((Ao w.heap.size w).alloc (An _) _).drew,fun h=>Bool.noConfusion h,fun h=>Bool.noConfusion h⟩) ?_ ?_
   ·repeat (first|exact Ak.nil|(refine Ak.cons ?_ ?_;rotate_left))
    all_goals
     rintro L U W hL hpre HR Hdep K hK
     first|(simp[Region.binds]at hpre;done)|simp[Region.binds]at hpre|clear hpre
    iterate 2
     ·go_simp
      first|exact hK _ _ _ rfl Ac HR.o rfl|exact kF hK HR.o|exact hK undef _ _ Ac Ac HR.o (by simp[Act.put,hpre])|exact hK _ _ _ Ac Ac HR.o rfl|exact kF hK HR.o
    ·obtain⟨R1,R2,R3⟩:=HR.o
     have hB:=R1 hL
     have h10:L 5=false:=Bb Hdep.o 5 2 rfl hL
     go_simp
     exact hK (.pointer (some ⟨W.heap.size,0,none⟩)) _ _ ⟨_,rfl⟩ Ac ⟨fun h=>by simp at h,fun _=>⟨W,rfl,hB,rfl⟩,fun h=>absurd (h10.symm.trans (by simpa using h)) (by decide)⟩ (by simp[Act.put,hpre])
    ·go_simp
     first|exact hK _ _ _ rfl Ac HR.o rfl|exact kF hK HR.o|exact hK undef _ _ Ac Ac HR.o (by simp[Act.put,hpre])|exact hK _ _ _ Ac Ac HR.o rfl|exact kF hK HR.o
    ·go_simp
     rw[if_pos (by omega)]
     go_simp
     exact hK (.string ⟨z.toArray⟩) _ _ rfl Ac HR.o (by simp[Act.put,hpre])
    ·obtain⟨R1,R2,R3⟩:=HR.o
     obtain⟨c,u5⟩:=hpre.1.2
     clear R1 R2 R3
     go_simp
     obtain⟨R1,R2,R3⟩:=HR.o
     exact hK (.pointer (some ⟨c,0,none⟩)) _ _ ⟨c,rfl⟩ Ac ⟨R1,R2,fun _=>u5.symm⟩ (by simp[Act.put,hpre,u5])
    iterate 2
     ·go_simp
      first|exact hK _ _ _ rfl Ac HR.o rfl|exact kF hK HR.o|exact hK undef _ _ Ac Ac HR.o (by simp[Act.put,hpre])|exact hK _ _ _ Ac Ac HR.o rfl|exact kF hK HR.o
   rintro L U W hL hφ hR
   have hφ10:U 5=U 2:=hR.2.2 (hL 5 (by decide))
   have e11:U 6=.string ⟨(z:List UInt8).toArray⟩:=hφ 6 (by decide)
   have e12:U 7=.bool true:=hφ 7 (by decide)
   clear hφ
   obtain⟨_,h2,h3⟩:=hR
   obtain⟨W7,rfl,hb7,u5⟩:=h2 (hL 2 (by decide))
   rw[u5]at hφ10
   clear hL h2
   simp only[hφ10,e11,e12]
   clear hφ10
   go_wp2_with fail
   refine bodyPost_ret (v:=.tuple #[.pointer (some ⟨W7.heap.size,0,none⟩),.string ⟨z.toArray⟩,.bool true]) (by simp[results,results105,go_sem]) rfl ?_
   have hz7:=hb7.size
   have Hb7:=(hb7.alloc (by omega) (.cells #[.string ⟨(63::kp:List UInt8).toArray⟩,.string ⟨#[]⟩,.slice none 0 0,.slice none 0 0] 148))
   rw[HM.o]
   refine⟨⟨W7.heap.size,rfl,?_⟩,Hb7⟩
   rw[Hsv.o]
   exact Fl.leaf (P:=fun c=>w.heap.size<=c) (kind:=63::kp) (text:=[]) (by omega)
  by_cases hc2:c=43
  ·subst hc2
   have HP:=Aa (HP.o z rfl)
   have HC:=Aa (fun W hW=>HC.o z (by simp at hs;omega) W hW)
   clear hc
   go_enter func105,ntmps105
   go_wp2_with fail
   generalize hwg:World.alloc w _=W1
   have p0:W1.cell? ⟨w.heap.size,0,none⟩=some xv:=by rw[<-hwg];simp[go_sem]
   have hl0:w.heap.size<W1.heap.size:=by rw[<-hwg];simp
   have Hb1:=Aa (show Below w.heap.size w W1 from by rw[<-hwg];exact(Ao _ _).alloc (An _) _)
   rw[hwg]at HW
   clear hwg
   refine rgT (SrQ W1.drew S k.part (Ar S 20 d k.part z)) 7 8 (fun W vp vr vk h=>h.1) ?_
   iterate 2 refine sq ?_
   refine sqS (.string ⟨z.toArray⟩) ?_
   refine sq ?_
   refine sqS (.string ⟨kp.toArray⟩) ?_
   iterate 2 refine sq ?_
   refine sqK (HC.o _ HW.o) ?_
   refine sqM ?_
   iterate 3 refine sqP ?_
   iterate 3 refine sqA ?_
   intro l u W hl _ hR
   obtain⟨vp,vr,vk,hq5,ua,ub,ue⟩:=RK.fin hR hl (by decide) (by decide)
   simp only[Nat.reduceAdd]at ua ub ue
   simp only[ua,ub,ue]
   clear hR hl ua ub ue
   obtain⟨hb5,hm⟩:=hq5
   have hz1:=Hb1.o.size
   have Hb5:=Aa (show Below w.heap.size w W from Hb1.o.drew.trans (hb5.mono (by simpa using hz1)))
   have hz5:=Hb5.o.size
   generalize Ar S 20 d k.part z=o at *
   have HP:=HP
   cases o with
   |none=>
    have HN:=Aa (HP.o)
    obtain⟨⟨q0,rfl⟩,⟨r0,rfl⟩,rfl⟩:=hm
    clear hb5 HP
    go_wp2_with fail
    refine bodyPost_ret (v:=.tuple #[.pointer (some ⟨W.heap.size+1,0,none⟩),.string r0,.bool false]) (by simp[results,results105,go_sem]) rfl ?_
    exact Bx.no HN.o rfl ((Hb5.o.alloc Hb5.o.size _).alloc (by simp;omega) _)
   |some y=>
    obtain⟨v,r⟩:=y
    obtain⟨⟨b,rfl,hsv⟩,rfl,rfl⟩:=hm
    have HY:=Aa (show q=some (.mk 63 [] 0 [v],r)from HP.o)
    have Hsv5:=Aa (hsv.mono (Q:=fun c=>w.heap.size<=c) fun c1 hc _=>Nat.le_trans (by simpa using hz1) hc)
    clear hb5 HP hsv
    go_wp2_with fail
    refine bodyPost_ret (v:=.tuple #[.pointer (some ⟨W.heap.size+1,0,none⟩),.string ⟨r.toArray⟩,.bool true]) (by simp[results,results105,go_sem]) rfl ?_
    rw[HY.o]
    refine⟨⟨W.heap.size+1,rfl,?_⟩,((Hb5.o.alloc Hb5.o.size _).alloc (by simp;omega) _)⟩
    rw[Hsv.o]
    refine .mk (63::kp) [] [] none (some ⟨W.heap.size,0,none⟩) 0 1 [(b,Cd S k.part v)] rfl (by simp) (by show w.heap.size<=W.heap.size+1;omega) (by go_simp) (by go_simp) (by go_simp) (by go_simp) ⟨rfl,Nat.zero_le _,fun h=>absurd h (by simp)⟩ ⟨rfl,by simp[maxLen],fun _=>⟨W.heap.size,0,rfl,by simp;omega,fun j u hu=>?_⟩⟩ (by simp) (by simp) (fun _ _ h=>absurd h (by simp)) (fun g o _ e=>?_) (fun x hx=>?_)
    ·match j,hu with
     |0,hu=>
      simp[Dx]at hu
      subst hu
      go_simp
     |j+1,hu=>simp[Dx]at hu
    ·injection e with e;injection e with e;subst e;exact hz5
    simp at hx
    subst hx
    exact Hsv5.o.after (((Ao _ _).alloc (An _) _).alloc (by simp) _)
  have HN:=Aa (HN.o (Dm hc z) (Dm hc2 z))
  have hcn:((c.toNat:Int) == 45)=false:=by have:=Ap hc;simpa using this
  have hcn2:((c.toNat:Int) != 43)=true:=by have:=Ap hc2;simpa using this
  clear hc hc2
  go_enter func105,ntmps105
  go_wp2_with fail
  refine bodyPost_ret (v:=.tuple #[.pointer none,.string ⟨(c::z:List UInt8).toArray⟩,.bool false]) (by simp[results,results105,go_sem]) rfl ?_
  exact Bx.no HN.o rfl ((Ao _ _).alloc (An _) _)
theorem Qai(S:List Ty)(m d:Nat)(k:Kd)(hs0:k.signs=[])(hb:k.base=[64]):Ar S m (d+1) k []=none:=by
 unfold Ar;rw[hs0,hb];simp only[];rw[if_neg aJ,if_neg aJ,if_neg aJ];cases Bk S k.name with
 |none=>rfl
 |some t=>simp[Kv,Av]
theorem Qh9(w0:World)(S:List Ty)(xv:Value)(hxv:xv.oneCell'=true)(k:Kd)(hs0:k.signs=[])(hb:k.base=[64])(hkl:k.name.length<=100)(d:Nat)(hd:d<=1000)(s:List UInt8)(w:World)(hw:Below w0 w0 w)(hs:s.length<=1000000)
  (H:∀W,Below w0 w0 W->s≠[]->Calls prog 160 #[.agg #[xv],s,.string ⟨(Ax k).toArray⟩,.int .i64 ((d+1:Nat):Int)] W (Bx S k (Ar S 20 (d+1) k s) W)):
  Calls prog 105 #[.agg #[xv],s,.string ⟨(Ax k).toArray⟩,.int .i64 ((d+1:Nat):Int)] w (Bx S k (Ar S 20 (d+1) k s) w):=by
 have HN:=Aa (Qai S 20 d k hs0 hb);have hkb:Ax k=64::(k.name++[59]):=ct;have d1:¬((((d+1:Nat):Int))<1):=aH;have d2:(((d+1:Nat):Int))<=1001:=aH;have HW:=@Aa (Below w0 w0 (w.alloc (.cells #[xv] 79))) (hw.alloc hw.size _);have HH:=Aa H;rw[hkb]at HH ⊢;generalize hnm:k.name++[59]=kn at *;have hkn:kn.length<=101:=by rw[<-hnm];simp;omega
 by_cases hne:s=[]
 ·subst hne;generalize Ar S 20 (d+1) k []=q at *;generalize (((d+1:Nat):Int))=dd at *;clear H hb hs0 hkb hnm HH hw;go_enter func105,ntmps105;go_wp2_with fail;refine aF (v:=.tuple #[.pointer none,a6,.bool false]) (by simp[results,results105,go_sem]) rfl ?_;exact lB
 have he:s.isEmpty=false:=df;have HP:=Aa (fun W hW=>HH.o W hW hne);generalize Ar S 20 (d+1) k s=q at *;generalize (((d+1:Nat):Int))=dd at *;clear H hb hs0 hkb hnm hne HH hw;go_enter func105,ntmps105;go_wp2_with fail;refine(HP.o _ HW.o).mono ?_;rintro e w5 hp;obtain⟨vp,vr,vk,rfl,hq5⟩:=hp.q;have Hq5:=Aa hq5;clear hq5 hp;go_wp2_with fail;refine aF (v:=.tuple #[vp,vr,vk]) (by simp[results,results105,go_sem]) rfl ?_;exact Hq5.o.post ((Ao _ _).alloc (An _) _)
theorem Qf1(S:List Ty)(xv:Value)(hxv:xv.oneCell'=true)(k:Kd)(hkl:(Ax k).length<=100)(s:List UInt8)(w:World)(hs:s.length<=1000000):
  Calls prog 105 #[.agg #[xv],s,.string ⟨(Ax k).toArray⟩,.int .i64 ((0:Nat):Int)] w (Bx S k (Ar S 20 0 k s) w):=by
 have HN:=@Aa (Ar S 20 0 k s=none) rfl;generalize Ax k=kb at *;generalize Ar S 20 0 k s=q at *;by_cases hne:s=[]
 ·subst hne;go_enter func105,ntmps105;go_wp2_with fail;refine aF (v:=.tuple #[.pointer none,a6,.bool false]) (by simp[results,results105,go_sem]) rfl ?_;exact lB
 have he:s.isEmpty=false:=df;clear hne;go_enter func105,ntmps105;go_wp2_with fail;refine aF (v:=.tuple #[.pointer none,s,.bool false]) (by simp[results,results105,go_sem]) rfl ?_;exact lB
def NmC(w0:World)(S:List Ty)(xv:Value):Prop:=∀d,d<=1000->(∀k,Ck k->SrC w0 S xv k d)->∀k,Ck k->k.signs=[]->k.base=[64]->∀(s:List UInt8),s.length<=1000000->∀W,Below w0 w0 W->s≠[] ->
 Calls prog 160 #[.agg #[xv],s,.string ⟨(Ax k).toArray⟩,.int .i64 ((d+1:Nat):Int)] W (Bx S k (Ar S 20 (d+1) k s) W)
theorem Qio(w0:World)(S:List Ty)(hS:∀t∈S,Fi t)(xv:Value)(hxv:xv.oneCell'=true)(HNm:NmC w0 S xv):∀d,d<=1001->∀k,Ck k->SrC w0 S xv k d:=by
 intro d;induction d with
 |zero=>
  intro _ k hk s W hW hs;exact Qf1 S xv hxv k cd s W hs
 |succ d ih=>
  intro hd k hk s W hW hs;have ih:=ih aH;have hkl:=hk.2.2;have hp:=(Js hk).1;obtain⟨h1,h2,h3⟩:=hk;cases hsg:k.signs with
  |cons c sg=>
   rw[hsg]at h1;simp only[List.all_cons,aw,Bn,Bool.or_eq_true,beq_iff_eq]at h1;rcases h1.1 with rfl|rfl
   ·exact Qhr w0 S xv hxv k sg hsg aH d aH s W hW hs (ih _ hp) (fun s v r h=>(Gy hS 20 d k.part s v r hp h).2)
   exact Qip w0 S xv hxv k sg hsg aH d aH s W hW hs (ih _ hp)
  |nil=>
   rcases h2 with⟨hb,hn⟩|⟨hb,_⟩
   ·exact Qh9 w0 S xv hxv k hsg hb (by have:=hn;rw[Ds]at this;have:=this.2.1;omega) d aH s W hW hs (fun W' hW' hne=>HNm d aH ih k ⟨h1,.inl ⟨hb,hn⟩,h3⟩ hsg hb s hs W' hW' hne)
   exact Qdd S xv hxv k hsg (by rcases hb with h|h|h<;>simp[h]) d aH s W hs
end
end Go.Proofs.YtmmhmlmfhpfgbaaGreatDoor
