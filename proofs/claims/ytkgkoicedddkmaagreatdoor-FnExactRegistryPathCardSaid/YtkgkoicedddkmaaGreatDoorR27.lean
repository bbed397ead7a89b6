/- Texts joined. Conditions: as each theorem names them. -/
import Derived.Deep.CutRange
import Derived.Deep.DeepCutAuto
import Derived.Test.YtkgkoicedddkmaaGreatDoorR16
import Derived.Test.YtkgkoicedddkmaaGreatDoorR22
set_option maxRecDepth 100000
set_option maxHeartbeats 32000000
set_option linter.unusedVariables false
set_option linter.unusedSimpArgs false
namespace Go.Proofs.YtkgkoicedddkmaaGreatDoor
open Go.RowKit Go.Proofs.Tryz
section
attribute [local go_sem] Qiz Qii Qib Qgw ByteArray.mk_append_mk
def Np(c:UInt8):Bool:=c != 39
def Mq(s:List UInt8):Nat:=min (((s.drop 1).takeWhile Np).length+2) s.length
theorem Qg3(r:List UInt8):(r.takeWhile Np=r/\∀x∈r,x≠39)\/∃q,r=r.takeWhile Np++39::q:=by
 induction r with
 |nil=>exact .inl ⟨rfl,by simp⟩
 |cons x r ih=>
  by_cases hx:Np x=true
  ·rw[List.takeWhile_cons_of_pos hx];rcases ih with⟨h1,h2⟩|⟨q,h⟩
   ·refine .inl ⟨by rw[h1],fun y hy=>?_⟩;rcases aA.1 hy with rfl|hy
    ·simpa [Np]using hx
    exact h2 y hy
   exact .inr ⟨q,by rw[av,<-h]⟩
  rw[List.takeWhile_cons_of_neg hx];have:x=39:=by simpa [Np]using hx
  subst this;exact .inr ⟨r,rfl⟩
theorem Qia(c:UInt8)(r:List UInt8):(Fk ((c::r).take (Mq (c::r)))=false/\Mo (c::r)=none) \/
  ∃x q,Mo (c::r)=some (x,q)/\Fk ((c::r).take (Mq (c::r)))=true/\(c::r).take (Mq (c::r))=39::(x++[39])/\(c::r).drop (Mq (c::r))=q:=by
 rcases Qg3 r with⟨h1,h2⟩|⟨q,h⟩
 ·left;have e:Mq (c::r)=(c::r).length:=by unfold Mq;rw[show (c::r).drop 1=r from rfl,h1];simp
  rw[e,List.take_length];have hd:Ar 39 (r.dropWhile Ce)=none:=by
   cases hc:r.dropWhile Ce with
   |nil=>rfl
   |cons x z=>
    have hx:x∈r:=(List.dropWhile_sublist _).subset (by rw[hc];simp);simp[Ar,h2 x hx]
  constructor
  ·unfold Fk;by_cases h0:r=[]
   ·subst h0;simp
   have hl:(c::r).getLast?=some (r.getLast h0):=by rw[List.getLast?_cons,List.getLast?_eq_some_getLast h0];rfl
   have:=h2 _ (List.getLast_mem h0);rw[hl];simp[this]
  unfold Mo;by_cases hc:c=39
  ·subst hc;rw[show Ar 39 (39::r)=some r by simp[Ar]];simp only;rw[hd]
  simp[Ar,hc]
 generalize htw:r.takeWhile Np=tw at *;have hno:∀x∈tw,Np x=true:=fun x hx=>by rw[<-htw]at hx;exact(List.all_eq_true.1 (List.all_takeWhile)) x hx
 have e:Mq (c::r)=tw.length+2:=by
  unfold Mq;rw[show (c::r).drop 1=r from rfl,htw];have:(c::r).length=tw.length+1+q.length+1:=by rw[h];simp;omega
  omega
 have et:(c::r).take (tw.length+2)=c::(tw++[39]):=by
  rw[List.take_succ_cons,h,List.take_append,au aH];simp
 have ed:(c::r).drop (tw.length+2)=q:=by
  rw[List.drop_succ_cons,h,List.drop_append,List.drop_of_length_le aH];simp
 have eq:Fk (c::(tw++[39]))=(decide (c=39) && Dl tw):=by
  unfold Fk;have hl:(c::(tw++[39])).getLast?=some 39:=by rw[<-av,List.getLast?_append];rfl
  rw[hl];simp
 rw[e,et,ed,eq];by_cases hc:c=39
 ·subst hc;by_cases hall:tw.all Ce=true
  ·have ha:=List.all_eq_true.1 hall;have t1:r.takeWhile Ce=tw:=by rw[h,List.takeWhile_append_of_pos ha];simp[Ce,H3,Bh]
   have t2:r.dropWhile Ce=39::q:=by rw[h,List.dropWhile_append_of_pos ha];simp[Ce,H3,Bh]
   by_cases h12:tw.length<=12
   ·right;exact⟨tw,q,by simp[Mo,Ar,t1,t2,h12],by simp[Dl,h12,hall],rfl,rfl⟩
   left;exact⟨by simp[Dl,h12],by simp[Mo,Ar,t1,t2,h12]⟩
  left;refine⟨by simp[Dl,hall],?_⟩;have:Ar 39 (r.dropWhile Ce)=none:=by
   rw[h];clear htw h e et ed eq;induction tw with
   |nil=>simp at hall
   |cons x tw ih=>
    by_cases hx:Ce x=true
    ·rw[av,List.dropWhile_cons_of_pos hx];exact ih (fun y hy=>hno y gh) (by simpa [hx]using hall)
    rw[av,List.dropWhile_cons_of_neg hx];have:=hno x aL;simp[Np]at this;simp[Ar,this]
  unfold Mo;rw[show Ar 39 (39::r)=some r by simp[Ar]];simp only;rw[this]
 left;exact⟨by simp[hc],by simp[Mo,Ar,hc]⟩
theorem Qfe(S:List Ty)(xv:Value)(hxv:xv.oneCell'=true)(s:List UInt8)(k:Kd)(hs0:k.signs=[])(hb:k.base=[116])(w:World)(hs:s.length<=4000000)(hne:s≠[])(q:Option (Vl × List UInt8))(hq:q=match Mo s with|some (x,r)=>some (.mk 116 x 0 [],r)|none=>none):
  Calls prog 69 #[.agg #[xv],s,.string ⟨#[116]⟩] w (Bl S k q w):=by
 have hkd:Bj k=[116]:=cr;have HQ:=Aa hq
 have Hor:=Aa (show (Fk (s.take (Mq s))=false/\Mo s=none)\/∃x q,Mo s=some (x,q)/\Fk (s.take (Mq s))=true/\s.take (Mq s)=39::(x++[39])/\s.drop (Mq s)=q by
  cases s with
  |nil=>exact absurd rfl hne
  |cons c r=>exact Qia c r)
 have hz:1<=s.length:=by cases s with|nil=>exact absurd rfl hne|cons c r=>simp
 have HT:=Aa (fun i (hi:i+1<s.length)=>(show (i<((s.drop 1).takeWhile Np).length->s[i+1]≠39)/\(i=((s.drop 1).takeWhile Np).length->s[i+1]=39)from by
  have h:=Qb4 Np (s.drop 1) i aM;simp only[List.getElem_drop,Nat.add_comm 1 i]at h;exact⟨fun h1=>by simpa [Np]using h.1 h1,fun h1=>by simpa [Np]using h.2 h1⟩))
 have hle:((s.drop 1).takeWhile Np).length+1<=s.length:=by
  have:=(Qx Np (s.drop 1)).2.2;rw[List.length_drop]at this;omega
 have hqd:Mq s=min (((s.drop 1).takeWhile Np).length+2) s.length:=rfl;have Hn:=Aa (fun W=>Vg (s.take (Mq s)) W aM);generalize ((s.drop 1).takeWhile Np).length=m at *;have k1:((Mq s:Nat):Int)<=(s.length:Int):=aH;have Hmin:Hid ((if ((m:Int)+1+1)<=(s.length:Int)then((m:Int)+1+1)else(s.length:Int))=((Mq s:Nat):Int)):=by
  unfold Hid;split<;>omega
 have k3:((Mq s:Nat):Int).toNat=Mq s:=aH;have k2:(0:Int)<=((Mq s:Nat):Int):=aH;generalize Mq s=n at *;generalize hnok:Fk (s.take n)=ok at *;have HI:∃tw dw,tw=s.take n/\dw=s.drop n:=⟨_,_,rfl,rfl⟩
 obtain⟨tw,dw,e1,e2⟩:=HI;rw[<-e1,<-e2]at Hor;rw[<-e1]at Hn hnok;have E1:=Aa e1.symm;have E2:=Aa e2.symm;have Hok:=Aa hnok;clear e1 e2 hs0 hb hq hqd hne hnok;go_enter func69,ntmps69;go_wp2_with fail;go_loop [9] (fun i=>∃j:Nat,i=.int .i64 ((j:Int)+1)/\j<=m) (fun i=>m+1 - (intOf i).toNat)
 case atStart=>exact⟨0,rfl,ag _⟩
 case round=>
  obtain⟨j,rfl,hj⟩:=hrel;by_cases hlt:j+1<s.length
  ·obtain⟨q1,q2⟩:=HT.o j hlt;have hc:=(s[j+1]).toNat_lt;by_cases hjm:j<m
   ·have h3:=q1 hjm;have h4:((s[j+1]).toNat:Int)≠39:=fun h=>h3 (by apply UInt8.toNat_inj.1;simpa using(by exact_mod_cast h:(s[j+1]).toNat=39));clear q1 q2 h3;go_wp2_with fail;go_round
    case rel=>exact⟨j+1,by go_num,by omega⟩
    case measure=>simp[intOf];omega
   have hjm2:j=m:=aH;have h4:((s[j+1]).toNat:Int)=39:=by rw[q2 hjm2];rfl
   clear q1 q2;subst hjm2;clear hjm HT hj hle;have e9:(j:Int)+1+1=(n:Int):=by rw[<-Hmin.o,if_pos aH]
   go_wp2_with fail;refine Ge [55,56,57,58,59,60,61,62,63,64,65,66,67,6,7,8]
    (fun ix v W=>match ix with|0=>v=.string ⟨#[116]⟩|1=>v=(s:List UInt8)|2=>v=(n:Int)|3=>v=.string ⟨(tw:List UInt8).toArray⟩|4=>v=.agg #[.string ⟨#[116]⟩,.string ⟨(tw:List UInt8).toArray⟩,.slice none 0 0,.slice none 0 0]|5=>∃c,v=.pointer (some ⟨c,0,none⟩)|6=>v=(s:List UInt8)|7=>v=(n:Int)|8=>v=.string ⟨(dw:List UInt8).toArray⟩|9=>v=(s:List UInt8)|10=>v=(n:Int)|11=>v=.string ⟨(tw:List UInt8).toArray⟩|12=>v=.bool ok|13=>∃c,v=.pointer (some ⟨c,0,none⟩)|14=>v=.string ⟨(dw:List UInt8).toArray⟩|15=>v=.bool ok|_=>True)
    (fun L U W=>(L 5=false->Below w w W)/\(L 5=true->∃W7,W=W7.alloc (.cells #[.string ⟨#[116]⟩,.string ⟨(tw:List UInt8).toArray⟩,.slice none 0 0,.slice none 0 0] 97)/\Below w w W7/\U 5=.pointer (some ⟨W7.heap.size,0,none⟩))/\(L 13=true->U 13=U 5)) (⟨fun _=>((Aq w.heap.size w).alloc (Ap _) _).drew,fun h=>Bool.noConfusion h,fun h=>Bool.noConfusion h⟩) ?_ ?_
   ·exact i8
   rintro L U W hL hφ hR;have hφ10:U 13=U 5:=hR.2.2 (hL 13 aK);have e11:U 14=.string ⟨(dw:List UInt8).toArray⟩:=hφ 14 aK;have e12:U 15=.bool ok:=hφ 15 aK;clear hφ;obtain⟨_,h2,h3⟩:=hR;obtain⟨W7,rfl,hb7,u5⟩:=h2 (hL 5 aK);rw[u5]at hφ10;clear hL h2;simp only[hφ10,e11,e12];clear hφ10;go_wp2_with fail;refine aF (v:=.tuple #[.pointer (some ⟨W7.heap.size,0,none⟩),.string ⟨dw.toArray⟩,.bool ok]) (by simp[results,results69,go_sem]) rfl ?_;have hz7:=hb7.size;have Hb7:=(hb7.alloc aH (.cells #[.string ⟨#[116]⟩,.string ⟨tw.toArray⟩,.slice none 0 0,.slice none 0 0] 97))
   have HQ:=HQ.o;rcases Hor.o with⟨o1,o2⟩|⟨x,q',o1,o2,o3,o4⟩
   ·exact jY
   rw[o1]at HQ;subst o2;rw[HQ];subst o4;refine⟨⟨W7.heap.size,rfl,?_⟩,Hb7⟩;rw[Vf,hkd,<-o3];exact Fl.leaf (P:=fun c=>w.heap.size<=c) aH
  ·have hjm2:j=m:=aH;subst hjm2;have hj3:(j:Int)<=5000000:=aH;have hj4:(0:Int)<=(j:Int):=aH;have hj5:¬((j:Int)+1+1<=(s.length:Int)):=aH;clear HT hj;have e9:(s.length:Int)=(n:Int):=by rw[<-Hmin.o,if_neg aH]
   go_wp2_with fail;refine Ge [55,56,57,58,59,60,61,62,63,64,65,66,67,6,7,8]
    (fun ix v W=>match ix with|0=>v=.string ⟨#[116]⟩|1=>v=(s:List UInt8)|2=>v=(n:Int)|3=>v=.string ⟨(tw:List UInt8).toArray⟩|4=>v=.agg #[.string ⟨#[116]⟩,.string ⟨(tw:List UInt8).toArray⟩,.slice none 0 0,.slice none 0 0]|5=>∃c,v=.pointer (some ⟨c,0,none⟩)|6=>v=(s:List UInt8)|7=>v=(n:Int)|8=>v=.string ⟨(dw:List UInt8).toArray⟩|9=>v=(s:List UInt8)|10=>v=(n:Int)|11=>v=.string ⟨(tw:List UInt8).toArray⟩|12=>v=.bool ok|13=>∃c,v=.pointer (some ⟨c,0,none⟩)|14=>v=.string ⟨(dw:List UInt8).toArray⟩|15=>v=.bool ok|_=>True)
    (fun L U W=>(L 5=false->Below w w W)/\(L 5=true->∃W7,W=W7.alloc (.cells #[.string ⟨#[116]⟩,.string ⟨(tw:List UInt8).toArray⟩,.slice none 0 0,.slice none 0 0] 97)/\Below w w W7/\U 5=.pointer (some ⟨W7.heap.size,0,none⟩))/\(L 13=true->U 13=U 5)) (⟨fun _=>((Aq w.heap.size w).alloc (Ap _) _).drew,fun h=>Bool.noConfusion h,fun h=>Bool.noConfusion h⟩) ?_ ?_
   ·exact i8
   rintro L U W hL hφ hR;have hφ10:U 13=U 5:=hR.2.2 (hL 13 aK);have e11:U 14=.string ⟨(dw:List UInt8).toArray⟩:=hφ 14 aK;have e12:U 15=.bool ok:=hφ 15 aK;clear hφ;obtain⟨_,h2,h3⟩:=hR;obtain⟨W7,rfl,hb7,u5⟩:=h2 (hL 5 aK);rw[u5]at hφ10;clear hL h2;simp only[hφ10,e11,e12];clear hφ10;go_wp2_with fail;refine aF (v:=.tuple #[.pointer (some ⟨W7.heap.size,0,none⟩),.string ⟨dw.toArray⟩,.bool ok]) (by simp[results,results69,go_sem]) rfl ?_;have hz7:=hb7.size;have Hb7:=(hb7.alloc aH (.cells #[.string ⟨#[116]⟩,.string ⟨tw.toArray⟩,.slice none 0 0,.slice none 0 0] 97))
   have HQ:=HQ.o;rcases Hor.o with⟨o1,o2⟩|⟨x,q',o1,o2,o3,o4⟩
   ·exact jY
   rw[o1]at HQ;subst o2;rw[HQ];subst o4;refine⟨⟨W7.heap.size,rfl,?_⟩,Hb7⟩;rw[Vf,hkd,<-o3];exact Fl.leaf (P:=fun c=>w.heap.size<=c) aH
theorem Qc:∀(p s:List UInt8),Fg p s=if s.take p.length=p then some (s.drop p.length)else none
 |[],s=>by simp[Fg]
 |c::p,[]=>by simp[Fg,Ar]
 |c::p,x::s=>by
  have ih:=Qc p s;unfold Fg;by_cases h:x=c
  ·subst h;simp only[Ar,if_true,List.length_cons,List.take_succ_cons,List.drop_succ_cons,List.cons.injEq,true_and];exact ih
  simp[Ar,h]
theorem Qgc(S:List Ty)(xv:Value)(hxv:xv.oneCell'=true)(s:List UInt8)(k:Kd)(hs0:k.signs=[])(hb:k.base=[102])(w:World)(hs:s.length<=4000000)(q:Option (Vl × List UInt8))(hq:q=match Nz s with|some (b,r)=>some (.mk 102 (if b then Ei else My) 0 [],r)|none=>none):
  Calls prog 69 #[.agg #[xv],s,.string ⟨#[102]⟩] w (Bl S k q w):=by
 have hkd:Bj k=[102]:=cr;have Hq:=Aa hq;have Hy:=Aa (Qc Ei s);have Hn:=Aa (Qc My s);clear hq hs0 hb;go_enter func69,ntmps69;go_wp2_with fail;go_loop [70] (fun i=>(i=.int .i64 0)\/(i=.int .i64 1/\¬s.take 3=Ei)\/(i=.int .i64 2/\¬s.take 3=Ei/\¬s.take 2=My)) (fun i=>3 - (intOf i).toNat)
 case atStart=>exact .inl rfl
 case round=>
  obtain rfl|⟨rfl,hny⟩|⟨rfl,hny,hnn⟩:=hrel
  ·by_cases hl:3<=s.length
   ·have hl2:(3:Int)<=(s.length:Int):=aH;by_cases ht:s.take 3=Ei
    ·have HQ:=@Aa (q=some (.mk 102 Ei 0 [],s.drop 3)) (by rw[Hq.o];unfold Nz;rw[Hy.o,if_pos (show s.take Ei.length=Ei from ht)];rfl);generalize hdw:s.drop 3=dw at *;have E2:=Aa hdw;have tb:(s.take 3 == [121,101,115])=true:=by rw[ht];rfl
     clear Hq hdw ht;go_wp2_with fail;have HbW:=Aa (((Aq w.heap.size w).alloc (Ap _) (.cells #[xv] 92)).alloc aL (.cells #[.string ⟨#[121,101,115]⟩,.string ⟨#[110,111]⟩] 9));refine Ge [87,88,89,90,91,92,93,94,6,7,8]
      (fun ix v W=>match ix with|0=>v=.string ⟨#[102]⟩|1=>v=.string ⟨#[121,101,115]⟩|2=>v=.agg #[.string ⟨#[102]⟩,.string ⟨#[121,101,115]⟩,.slice none 0 0,.slice none 0 0]|3=>∃c,v=.pointer (some ⟨c,0,none⟩)|4=>v=(s:List UInt8)|5=>v=.string ⟨#[121,101,115]⟩|6=>v=.int .i64 3|7=>v=(dw:List UInt8)|8=>∃c,v=.pointer (some ⟨c,0,none⟩)|9=>v=(dw:List UInt8)|10=>v=.bool true|_=>True)
      (fun L U W=>(L 3=false->Below w w W)/\(L 3=true->∃W7,W=W7.alloc (.cells #[.string ⟨#[102]⟩,.string ⟨#[121,101,115]⟩,.slice none 0 0,.slice none 0 0] 97)/\Below w w W7/\U 3=.pointer (some ⟨W7.heap.size,0,none⟩))/\(L 8=true->U 8=U 3)) (⟨fun _=>HbW.o.drew,fun h=>Bool.noConfusion h,fun h=>Bool.noConfusion h⟩) ?_ ?_
     ·exact ij
     rintro L U W hL hφ hR;have hφ10:U 8=U 3:=hR.2.2 (hL 8 aK);have e11:U 9=(dw:List UInt8):=hφ 9 aK;have e12:U 10=.bool true:=hφ 10 aK;clear hφ;obtain⟨_,h2,h3⟩:=hR;obtain⟨W7,rfl,hb7,u5⟩:=h2 (hL 3 aK);rw[u5]at hφ10;clear hL h2;simp only[hφ10,e11,e12];clear hφ10;go_wp2_with fail;refine aF (v:=.tuple #[.pointer (some ⟨W7.heap.size,0,none⟩),dw,.bool true]) (by simp[results,results69,go_sem]) rfl ?_;have hz7:=hb7.size;have Hb7:=(hb7.alloc aH (.cells #[.string ⟨#[102]⟩,.string ⟨#[121,101,115]⟩,.slice none 0 0,.slice none 0 0] 97))
     rw[HQ.o];refine⟨⟨W7.heap.size,rfl,?_⟩,Hb7⟩;rw[Vm,hkd];exact Fl.leaf (P:=fun c=>w.heap.size<=c) aH
    have tb:(s.take 3 == [121,101,115])=false:=by simpa [Ei,My]using ht
    go_wp2_with fail;go_round
    case rel=>exact .inr (.inl ⟨rfl,ht⟩)
    case measure=>simp[intOf]
   have hl2:¬((3:Int)<=(s.length:Int)):=aH;have ht:¬s.take 3=Ei:=fun h=>hl fy;go_wp2_with fail;go_round
   case rel=>exact .inr (.inl ⟨rfl,ht⟩)
   case measure=>simp[intOf]
  ·by_cases hl:2<=s.length
   ·have hl2:(2:Int)<=(s.length:Int):=aH;by_cases ht:s.take 2=My
    ·have HQ:=@Aa (q=some (.mk 102 My 0 [],s.drop 2)) (by rw[Hq.o];unfold Nz;rw[Hy.o,if_neg (show ¬s.take Ei.length=Ei from hny),Hn.o,if_pos (show s.take My.length=My from ht)];rfl);generalize hdw:s.drop 2=dw at *;have E2:=Aa hdw;have tb:(s.take 2 == [110,111])=true:=by rw[ht];rfl
     clear Hq hdw ht;go_wp2_with fail;have HbW:=Aa (((Aq w.heap.size w).alloc (Ap _) (.cells #[xv] 92)).alloc aL (.cells #[.string ⟨#[121,101,115]⟩,.string ⟨#[110,111]⟩] 9));refine Ge [87,88,89,90,91,92,93,94,6,7,8]
      (fun ix v W=>match ix with|0=>v=.string ⟨#[102]⟩|1=>v=.string ⟨#[110,111]⟩|2=>v=.agg #[.string ⟨#[102]⟩,.string ⟨#[110,111]⟩,.slice none 0 0,.slice none 0 0]|3=>∃c,v=.pointer (some ⟨c,0,none⟩)|4=>v=(s:List UInt8)|5=>v=.string ⟨#[110,111]⟩|6=>v=.int .i64 2|7=>v=(dw:List UInt8)|8=>∃c,v=.pointer (some ⟨c,0,none⟩)|9=>v=(dw:List UInt8)|10=>v=.bool true|_=>True)
      (fun L U W=>(L 3=false->Below w w W)/\(L 3=true->∃W7,W=W7.alloc (.cells #[.string ⟨#[102]⟩,.string ⟨#[110,111]⟩,.slice none 0 0,.slice none 0 0] 97)/\Below w w W7/\U 3=.pointer (some ⟨W7.heap.size,0,none⟩))/\(L 8=true->U 8=U 3)) (⟨fun _=>HbW.o.drew,fun h=>Bool.noConfusion h,fun h=>Bool.noConfusion h⟩) ?_ ?_
     ·exact ij
     rintro L U W hL hφ hR;have hφ10:U 8=U 3:=hR.2.2 (hL 8 aK);have e11:U 9=(dw:List UInt8):=hφ 9 aK;have e12:U 10=.bool true:=hφ 10 aK;clear hφ;obtain⟨_,h2,h3⟩:=hR;obtain⟨W7,rfl,hb7,u5⟩:=h2 (hL 3 aK);rw[u5]at hφ10;clear hL h2;simp only[hφ10,e11,e12];clear hφ10;go_wp2_with fail;refine aF (v:=.tuple #[.pointer (some ⟨W7.heap.size,0,none⟩),dw,.bool true]) (by simp[results,results69,go_sem]) rfl ?_;have hz7:=hb7.size;have Hb7:=(hb7.alloc aH (.cells #[.string ⟨#[102]⟩,.string ⟨#[110,111]⟩,.slice none 0 0,.slice none 0 0] 97))
     rw[HQ.o];refine⟨⟨W7.heap.size,rfl,?_⟩,Hb7⟩;rw[Vm,hkd];exact Fl.leaf (P:=fun c=>w.heap.size<=c) aH
    have tb:(s.take 2 == [110,111])=false:=by simpa [Ei,My]using ht
    go_wp2_with fail;go_round
    case rel=>exact .inr (.inr ⟨rfl,hny,ht⟩)
    case measure=>simp[intOf]
   have hl2:¬((2:Int)<=(s.length:Int)):=aH;have ht:¬s.take 2=My:=fun h=>hl fy;go_wp2_with fail;go_round
   case rel=>exact .inr (.inr ⟨rfl,hny,ht⟩)
   case measure=>simp[intOf]
  ·have HQ:=@Aa (q=none) (by rw[Hq.o];simp only[Nz,Hy.o,Hn.o,if_neg (show ¬s.take Ei.length=Ei from hny),if_neg (show ¬s.take My.length=My from hnn)]);clear Hq;go_wp2_with fail;refine aF (v:=.tuple #[.pointer none,s,.bool false]) (by simp[results,results69,go_sem]) rfl ?_;exact Bl.no HQ.o rfl (((Aq w.heap.size w).alloc (Ap _) _).alloc aL _)
end
theorem Vs:(prog.info? 56).map (fun i=>(i.zero,i.size,i.bytes))=some (some (.pointer none),1,8):=aO
theorem Qb1:(prog.info? 3).map (fun i=>(i.zero,i.size,i.bytes))=some (some (.int .i64 0),1,8):=aO
theorem Vc{W:World}{base s1 s2 n1 n2:Nat}{e1 e2:TypeId}{v1 v2:Value}{xs ys:List Value}(h:W.ownsRow base e1 s1 v1 n1 xs)(k:W.ownsRow base e2 s2 v2 n2 ys)(hne:e1≠e2):v1.ownBlock=none\/v1.ownBlock≠v2.ownBlock:=by
 obtain⟨_,⟨rfl,_⟩|⟨g,cap,cur,rfl,_,h3,_⟩⟩:=h
 ·exact .inl rfl
 obtain⟨_,⟨rfl,_⟩|⟨g',cap',cur',rfl,_,k3,_⟩⟩:=k
 ·exact .inr fV
 refine .inr fun e=>?_;injection e with e;simp only at e;subst e;rw[h3]at k3;injection k3 with k3;injection k3 with _ k3;exact hne k3
theorem Tb{base b:Nat}{v:Value}(h:∀k,v.ownBlock=some k->base<=k)(hb:b<base):v.ownBlock=none\/v.ownBlock≠some b:=by
 by_cases hr:v.ownBlock=none
 ·exact .inl hr
 exact .inr fun e=>by have:=h b e;omega
structure Jr(base B:Nat)(W:World)(h0 h1 tu tv ku kv:Value)(gs:List Nat)(xs:List (Nat × SV)):Prop where
 lt:B<W.heap.size
 bs:base<=W.heap.size
 hB:B<base
 bk:Pf W B
 c0:W.cell? (B,0)=some h0
 c1:W.cell? (B,1)=some h1
 c2:W.cell? (B,2)=some tu
 c3:W.cell? (B,3)=some ku
 tags:W.ownsRow base 3 1 tv gs.length (Ec gs)
 row:W.ownsRow base 56 1 kv xs.length (Do (xs.map (·.1)))
 kids:∀x∈xs,Fl (fun c=>base<=c/\kv.ownBlock≠some c/\tv.ownBlock≠some c) W x.1 x.2
theorem Jr.after{base B:Nat}{W W':World}{h0 h1 tu tv ku kv:Value}{gs:List Nat}{xs:List (Nat × SV)}(h:Jr base B W h0 h1 tu tv ku kv gs xs)(hb:Below W W W'):Jr base B W' h0 h1 tu tv ku kv gs xs:=by
 obtain⟨hc,_,hz⟩:=By hb;exact⟨hz _ h.lt,ad h.bs hb.size,h.hB,h.bk.belowAt h.lt hb,(hc _ _ h.lt).trans h.c0,(hc _ _ h.lt).trans h.c1,(hc _ _ h.lt).trans h.c2,(hc _ _ h.lt).trans h.c3,Cm h.tags hb,Cm h.row hb,fun x hx=>(h.kids x hx).after hb⟩
theorem Jr.set2{base B:Nat}{W:World}{h0 h1 tu tv ku kv:Value}{gs:List Nat}{xs:List (Nat × SV)}(h:Jr base B W h0 h1 tu tv ku kv gs xs):Jr base B (W.setCell ⟨B,2,none⟩ tv) h0 h1 tv tv ku kv gs xs:=by
 have hg:=At W B 2 tv;have hB:=h.hB;exact⟨by simpa using h.lt,by simpa using h.bs,h.hB,h.bk.set _,by simp[go_sem,h.c0],by simp[go_sem,h.c1],by simp[go_sem,h.c2],by simp[go_sem,h.c3],h.tags.kept hg (Tb (fun k hk=>(h.tags.lt k hk).1) h.hB),h.row.kept hg (Tb (fun k hk=>(h.row.lt k hk).1) h.hB),fun x hx=>(h.kids x hx).grown hg fun c hc e=>by injection e with e;omega⟩
theorem Jr.set3{base B:Nat}{W:World}{h0 h1 tu tv ku kv:Value}{gs:List Nat}{xs:List (Nat × SV)}(h:Jr base B W h0 h1 tu tv ku kv gs xs):Jr base B (W.setCell ⟨B,3,none⟩ kv) h0 h1 tu tv kv kv gs xs:=by
 have hg:=At W B 3 kv;have hB:=h.hB;exact⟨by simpa using h.lt,by simpa using h.bs,h.hB,h.bk.set _,by simp[go_sem,h.c0],by simp[go_sem,h.c1],by simp[go_sem,h.c2],by simp[go_sem,h.c3],h.tags.kept hg (Tb (fun k hk=>(h.tags.lt k hk).1) h.hB),h.row.kept hg (Tb (fun k hk=>(h.row.lt k hk).1) h.hB),fun x hx=>(h.kids x hx).grown hg fun c hc e=>by injection e with e;omega⟩
theorem Jr.appK{base B:Nat}{W W':World}{h0 h1 tu tv ku kv kv':Value}{gs:List Nat}{xs:List (Nat × SV)}{x:Nat × SV}(h:Jr base B W h0 h1 tu tv ku kv gs xs)(hx:Fl (fun c=>base<=c/\kv.ownBlock≠some c/\tv.ownBlock≠some c) W x.1 x.2)
  (hown:W'.ownsRow base 56 1 kv' (xs.length+1) (Do (xs.map (·.1))++[.pointer (some ⟨x.1,0,none⟩)])) (hg:W.grownBy W' kv.ownBlock) (hwh:kv'.ownBlock=kv.ownBlock\/∃k,kv'.ownBlock=some k/\W.heap.size<=k):Jr base B W' h0 h1 tu tv ku kv' gs (xs++[x]):=by
 have hn:some B≠kv.ownBlock:=fun e=>fM;refine⟨ac h.lt hg.size,ad h.bs hg.size,h.hB,h.bk.grown h.lt hg hn,hg.cell h.c0 hn,hg.cell h.c1 hn,hg.cell h.c2 hn,hg.cell h.c3 hn,h.tags.kept hg (Vc h.tags h.row aK),by simpa [Do]using hown,fun y hy=>?_⟩;have hy':Fl (fun c=>base<=c/\kv.ownBlock≠some c/\tv.ownBlock≠some c) W y.1 y.2:=by
  rcases af.1 hy with hy|hy
  ·exact h.kids y hy
  rw[aq]at hy;subst hy;exact hx
 refine hy'.kept (fun b o v hb _ hv=>hg.cell hv fun e=>hb.2.1 e.symm) hg.size fun c hc hl=>⟨hc.1,?_,hc.2.2⟩
 rcases hwh with e|⟨k,e,hk⟩
 ·rw[e];exact hc.2.1
 rw[e];intro e;injection e with e;omega
theorem Jr.appT{base B:Nat}{W W':World}{h0 h1 tu tv tv' ku kv:Value}{gs:List Nat}{xs:List (Nat × SV)}{g:Nat}(h:Jr base B W h0 h1 tu tv ku kv gs xs)
  (hown:W'.ownsRow base 3 1 tv' (gs.length+1) (Ec gs++[.int .i64 (g:Int)])) (hg:W.grownBy W' tv.ownBlock) (hwh:tv'.ownBlock=tv.ownBlock\/∃k,tv'.ownBlock=some k/\W.heap.size<=k):Jr base B W' h0 h1 tu tv' ku kv (gs++[g]) xs:=by
 have hn:some B≠tv.ownBlock:=fun e=>by have:=(h.tags.lt B e.symm).1;have:=h.hB;omega
 refine⟨ac h.lt hg.size,ad h.bs hg.size,h.hB,h.bk.grown h.lt hg hn,hg.cell h.c0 hn,hg.cell h.c1 hn,hg.cell h.c2 hn,hg.cell h.c3 hn,by simpa [Ec]using hown,h.row.kept hg (Vc h.row h.tags aK),fun y hy=>?_⟩;refine(h.kids y hy).kept (fun b o v hb _ hv=>hg.cell hv fun e=>hb.2.2 e.symm) hg.size fun c hc hl=>⟨hc.1,hc.2.1,?_⟩
 rcases hwh with e|⟨k,e,hk⟩
 ·rw[e];exact hc.2.2
 rw[e];intro e;injection e with e;omega
theorem Zy{w:World}{base k n m c:Nat}{e:TypeId}{A:Option Addr}{xs:List Value}(h:w.ownsRow base e k (.slice A m c) n xs):m=n:=by
 rcases h.2 with⟨e,h0⟩|⟨g,cap,cur,e,_⟩
 ·injection e with _ e1 e2;omega
 injection e with _ e1 e2
theorem Jr.push{base B n c:Nat}{W W':World}{A:Option Addr}{h0 h1 tu tv ku kv':Value}{gs:List Nat}{xs:List (Nat × SV)}{x:Nat × SV}(h:Jr base B W h0 h1 tu tv ku (.slice A n c) gs xs)(hx:Fl (fun c1=>base<=c1/\(Value.slice A n c).ownBlock≠some c1/\tv.ownBlock≠some c1) W x.1 x.2)
  (hown:W'.ownsRow base 56 1 kv' (xs.length+1) (Do (xs.map (·.1))++[.pointer (some ⟨x.1,0,none⟩)])) (hg:W.grownBy W' (Value.slice A n c).ownBlock) (hwh:kv'.ownBlock=(Value.slice A n c).ownBlock\/∃k,kv'.ownBlock=some k/\W.heap.size<=k):
  ∃A6 c6,kv'=.slice A6 (xs++[x]).length c6/\Jr base B W' h0 h1 tu tv ku kv' gs (xs++[x])/\Below base W W':=by
 have hA:=h.appK hx hown hg hwh;have e:(xs++[x]).length=xs.length+1:=aL;rcases hown.2 with⟨e0,h0⟩|⟨g,cap,cur,e1,_⟩
 ·omega
 exact⟨some ⟨g,0,none⟩,cap,by rw[e,e1],hA,(Aq _ _).grown hg h.bs (fun k hk=>(h.row.lt k hk).1)⟩
theorem Jr.pushT{base B n c g:Nat}{W W':World}{A:Option Addr}{h0 h1 tu tv' ku kv:Value}{gs:List Nat}{xs:List (Nat × SV)}(h:Jr base B W h0 h1 tu (.slice A n c) ku kv gs xs)
  (hown:W'.ownsRow base 3 1 tv' (gs.length+1) (Ec gs++[.int .i64 (g:Int)])) (hg:W.grownBy W' (Value.slice A n c).ownBlock) (hwh:tv'.ownBlock=(Value.slice A n c).ownBlock\/∃k,tv'.ownBlock=some k/\W.heap.size<=k):
  ∃A6 c6,tv'=.slice A6 (gs++[g]).length c6/\Jr base B W' h0 h1 tu tv' ku kv (gs++[g]) xs/\Below base W W':=by
 have hA:=h.appT hown hg hwh;have e:(gs++[g]).length=gs.length+1:=aL;rcases hown.2 with⟨e0,h0⟩|⟨g9,cap,cur,e1,_⟩
 ·omega
 exact⟨some ⟨g9,0,none⟩,cap,by rw[e,e1],hA,(Aq _ _).grown hg h.bs (fun k hk=>(h.tags.lt k hk).1)⟩
theorem Qa2{w:World}{base n:Nat}{e:TypeId}{v:Value}{xs:List Value}(h:w.ownsRow base e 1 v n xs)(hx:xs.length=n)(hl:n<=1000):∃A c,v=.slice A n c/\B9 w A n xs/\∀g o,0<n->A=some ⟨g,o,none⟩->base<=g:=by
 have h':=h;rcases h.2 with⟨rfl,h0⟩|⟨g,cap,cur,rfl,hbg,hh,hnc,hcm,hcs,htk⟩
 ·subst h0;exact⟨none,0,rfl,⟨hx,ag _,fun hn=>absurd hn aK⟩,fun g o hn _=>absurd hn aK⟩
 refine⟨some ⟨g,0,none⟩,cap,rfl,⟨hx,by unfold maxLen;omega,fun hn=>⟨g,0,rfl,(h'.lt g rfl).2,fun j u hu=>?_⟩⟩,fun g' o _ e=>by injection e with e;injection e with e;subst e;exact hbg⟩;have:=h'.cells (g:=g) rfl j u hu;have e1:(⟨g,0,none⟩:Addr).add j=⟨g,0+j,none⟩:=bB;rwa [e1]at this
theorem Jr.done{base B:Nat}{W:World}{kind text:List UInt8}{tv kv:Value}{gs:List Nat}{xs:List (Nat × SV)}(h:Jr base B W kind text tv tv kv kv gs xs)(hg:gs.length<=1000)(hx:xs.length<=1000):Fl (fun c=>B<=c) W B (.mk kind text gs (xs.map (·.2))):=by
 obtain⟨A1,c1,rfl,r1,p1⟩:=Qa2 h.tags (by simp[Ec]) hg;obtain⟨A2,c2,rfl,r2,p2⟩:=Qa2 h.row (by simp[Do]) hx;have hB:=h.hB;exact .mk kind text gs A1 A2 c1 c2 xs rfl h.lt (Ap _) h.c0 h.c1 h.c2 h.c3 r1 r2 hg hx (fun g o hn e=>by have:=p1 g o hn e;omega) (fun g o hn e=>by have:=p2 g o hn e;omega) fun x hx=>(h.kids x hx).mono fun c hc _=>by have:=hc.1;omega
theorem Jr.new{W:World}{T:TypeId}(h0 h1:Value):Jr (W.heap.size+1) W.heap.size (W.alloc (.cells #[h0,h1,.slice none 0 0,.slice none 0 0] T)) h0 h1 (.slice none 0 0) (.slice none 0 0) (.slice none 0 0) (.slice none 0 0) [] []:=
 ⟨by simp,by simp,by omega,Pf.new _ _ _,by simp[go_sem],by simp[go_sem],by simp[go_sem],by simp[go_sem],World.ownsRow_nil _ _ _ _,World.ownsRow_nil _ _ _ _,by simp⟩
section
attribute [local go_sem] Qiz Qii Qib Qgw ByteArray.mk_append_mk
structure Gh(Q:World->Value->Value->Value->Prop)(w1:World)(c m x y z a b e:Bool)(uc um ux uy uz ua ub ue:Value)(W:World):Prop where
 no:c=false->W=w1
 yes:c=true->∃vp vr vk,Q W vp vr vk/\uc=.tuple #[vp,vr,vk]/\(m=true->um=.tuple #[vp,vr,vk])/\(x=true->ux=vp)/\(y=true->uy=vr)/\(z=true->uz=vk)/\(a=true->ua=vp)/\(b=true->ub=vr)/\(e=true->ue=vk)
def SrQ(w1:World)(S:List Ty)(k:Kd)(o:Option (Vl × List UInt8))(W:World)(vp vr vk:Value):Prop:=
 Below w1 w1 W/\match o with
  |some x=>(∃b,vp=.pointer (some ⟨b,0,none⟩)/\Fl (fun c=>w1.heap.size<=c) W b (Cq S k x.1))/\vr=x.2/\vk=.bool true
  |none=>(∃q,vp=.pointer q)/\(∃r,vr=.string r)/\vk=.bool false
theorem Bl.q{S:List Ty}{k:Kd}{o:Option (Vl × List UInt8)}{w w':World}{e:Ending}(h:Bl S k o w e w'):∃vp vr vk,e=.returned (.tuple #[vp,vr,vk])/\SrQ w S k o w' vp vr vk:=by
 obtain⟨h,hb⟩:=h;cases o with
 |none=>obtain⟨q,r,rfl⟩:=h;exact⟨_,_,_,rfl,hb,⟨q,rfl⟩,⟨r,rfl⟩,rfl⟩
 |some x=>obtain⟨b,rfl,hs⟩:=h;exact⟨_,_,_,rfl,hb,⟨b,rfl,hs⟩,rfl,rfl⟩
def SrC(w0:World)(S:List Ty)(xv:Value)(k:Kd)(d:Nat):Prop:=∀(s:List UInt8) (W:World),Below w0 w0 W->s.length<=1000000 ->
 Calls prog 43 #[.agg #[xv],s,.string ⟨(Bj k).toArray⟩,(d:Int)] W (Bl S k (An S 20 d k s) W)
def Qe2(K:List UInt8->Option (Vl × List UInt8))(s:List UInt8):Option (Vl × List UInt8):=match Ar 93 s with
 |some z=>some (.mk 91 [] 0 [],z)
 |none=>match Cx K 20 s with|some (vs,z)=>some (.mk 91 [] 0 vs,z)|none=>none
structure Qir(w:World)(xv h0 h1:Value)(S:List Ty)(k:Kd)(K:List UInt8->Option (Vl × List UInt8))(s:List UInt8)(wr:World)(v:Value)(xs:List (Nat × SV))(vs:List Vl)(tt:List UInt8):Prop where
 bel:Below w w wr
 st:Jr (w.heap.size+2) (w.heap.size+1) wr h0 h1 (.slice none 0 0) (.slice none 0 0) v v [] xs
 box:wr.cell? (w,0)=some xv
 len:xs.length=vs.length
 eq:xs.map (·.2)=vs.map (Cq S k.part)
 it:Cx K 20 s=Qo vs (Cx K (20 - vs.length) tt)
 le:tt.length<=s.length
theorem Qd6(w0:World)(S:List Ty)(xv:Value)(hxv:xv.oneCell'=true)(k:Kd)(sg:List UInt8)(hsg:k.signs=91::sg)(hkl:(Bj k).length<=100)(d:Nat)(hd:d<=1000)(s:List UInt8)(w:World)(hw:Below w0 w0 w)(hs:s.length<=1000000)
  (H:SrC w0 S xv k.part d) (HG:∀s v r,An S 20 d k.part s=some (v,r)->s=Bc v++r) (q:Option (Vl × List UInt8)) (hq:q=Qe2 (An S 20 d k.part) s):
  Calls prog 67 #[.agg #[xv],.string ⟨s.toArray⟩,.string ⟨(Bj k).toArray⟩,.int .i64 ((d+1:Nat):Int)] w (Bl S k q w):=by
 have hkp:Bj k=91::Bj k.part:=by unfold Bj Kd.part;rw[hsg];rfl
 have HQ:=Aa hq;have HH:=Aa H;have HG:=Aa HG;have HW:=Aa hw;have Hsv:=Aa (fun ks=>hkp ▸ Q5 S k ks);have hkl2:(Bj k.part).length<=100:=by rw[hkp]at hkl;simp at hkl;omega
 rw[hkp];generalize hkk:Bj k.part=kp at *;have Hkk:=Aa hkk;have ed:(((d+1:Nat):Int)) - 1=(d:Int):=aH;have ed2:(((d+1:Nat):Int))<=1001:=aH;have ed3:(0:Int)<=(((d+1:Nat):Int)):=aH;generalize (((d+1:Nat):Int))=dd at *;clear H hw hq hkp hkl hkk hsg;by_cases h93:∃z,s=93::z
 ·obtain⟨z,rfl⟩:=h93;go_enter func67,ntmps67;go_wp2_with fail;go_quiet (fail)
  go_wp2_with fail;refine aF (v:=.tuple #[(w,1,0),.string ⟨z.toArray⟩,.bool true]) (by simp[results,results67,go_sem]) rfl ?_;rw[HQ.o,show Qe2 (An S 20 d k.part) (93::z)=some (.mk 91 [] 0 [],z)from by simp[Qe2,Ar]];have hl:=Fl.leaf (P:=fun c=>w.heap.size<=c) (w:=w.alloc (.cells #[xv] 92)) (kind:=91::kp) (text:=[]) (T:=97) aL;refine⟨⟨w.heap.size+1,rfl,?_⟩,below_drewN (((Aq w.heap.size w).alloc (Ap _) _).alloc aL _) _⟩;rw[Hsv.o];have hl2:Fl (fun c=>w.heap.size<=c) ((w.alloc (.cells #[xv] 92)).alloc (.cells #[(91::kp:List UInt8),a8,.slice none 0 0,.slice none 0 0] 97)) (w.heap.size+1) (.mk (91::kp) [] [] []):=fL;exact hl2.after (below_drewN (Aq _ _) _)
 have hne:Ar 93 s=none:=by
  cases s with
  |nil=>rfl
  |cons c z=>exact Di (fun e=>h93 ⟨z,by rw[e]⟩) z
 have HQ2:=@Aa (q=match Cx (An S 20 d k.part) 20 s with|some (vs,z)=>some (.mk 91 [] 0 vs,z)|none=>none) (by rw[HQ.o];unfold Qe2;rw[hne])
 have Hst:=Aa (show Jr (w.heap.size+2) (w.heap.size+1) ((w.alloc (.cells #[xv] 92)).alloc (.cells #[(91::kp:List UInt8),a8,.slice none 0 0,.slice none 0 0] 97)) (91::kp:List UInt8) a8 (.slice none 0 0) (.slice none 0 0) (.slice none 0 0) (.slice none 0 0) [] []from by
  have:=Jr.new (W:=w.alloc (.cells #[xv] 92)) (T:=97) (91::kp:List UInt8) a8;simpa using this)
 have hc0:s≠[]->∀h,((s[0]'h).toNat:Int)≠93:=by
  intro hn h e;cases s with
  |nil=>exact hn rfl
  | cons c z => exact h93 ⟨z, by have:c=93:=by apply UInt8.toNat_inj.1;simpa using(by exact_mod_cast e:c.toNat=93)
                                 rw[this]⟩
 clear h93 hne;obtain⟨W1,hW1⟩:∃W1,W1=(w.alloc (.cells #[xv] 92)).alloc (.cells #[(91::kp:List UInt8),a8,.slice none 0 0,.slice none 0 0] 97):=⟨_,rfl⟩
 have Hb1:=@Aa (Below w w W1) (by rw[hW1];exact((Aq w.heap.size w).alloc (Ap _) _).alloc aL _);have Hx1:=@Aa (W1.cell? (w,0)=some xv) dq;rw[<-hW1]at Hst;go_enter func67,ntmps67;go_upto_region 2 with fail
 rw[<-hW1];clear hW1;go_cut [1,24]from 18 to 27 (fun s0 bt wx=>s0=.string ⟨s.toArray⟩/\bt=.bool false/\wx=W1)
 case first=>
  by_cases hs0:s=[]
  ·have he:s.isEmpty=true:=by rw[hs0];rfl
   clear hs0 hc0;go_wp2_with fail;go_meet
   exact⟨rfl,rfl,rfl⟩
  ·have he:s.isEmpty=false:=by cases s with|nil=>exact absurd rfl hs0|cons c z=>rfl
   have hs1:0<s.length:=by cases s with|nil=>exact absurd rfl hs0|cons c z=>simp
   have hs2:(((s[0]'hs1).toNat:Int) == 93)=false:=by simpa using hc0 hs0 hs1
   clear hs0 hc0;go_wp2_with fail;go_meet
   exact⟨rfl,rfl,rfl⟩
 case rest=>
  clear hc0;obtain⟨rfl,rfl,rfl⟩:=hcut;have L0:=@Aa (Qir w xv (91::kp:List UInt8) a8 S k (An S 20 d k.part) s wc (.slice none 0 0) [] [] s) ⟨Hb1.o,Hst.o,Hx1.o,rfl,rfl,by cases h:Cx (An S 20 d k.part) 20 s<;>simp[Qo,h],Ap _⟩;clear Hb1 Hst Hx1;go_wp2_with fail;go_loopw [1] (fun s0 wr=>∃(A:Option Addr) (c:Nat) (xs:List (Nat × SV)) (vs:List Vl) (tt:List UInt8),s0=tt/\tt.length<=s.length/\Hid (Qir w xv (91::kp:List UInt8) a8 S k (An S 20 d k.part) s wr (.slice A xs.length c) xs vs tt)) (fun s0 _=>Qr s0)
  case atStart=>exact⟨none,0,[],[],s,rfl,Ap _,L0.o⟩
  case round=>
   obtain⟨A,c,xs,vs,tt,rfl,htl,HL⟩:=hrel;have c3:=HL.o.st.c3;have c0:=HL.o.box;have hlt:=HL.o.st.lt;by_cases h20:xs.length<20
   ·have t20:decide ((xs.length:Int)<20)=true:=aD aH;have HC:=@Aa (∀W,Below w0 w0 W->Calls prog 43 #[.agg #[xv],tt,kp,(d:Int)] W (Bl S k.part (An S 20 d k.part tt) W)) (fun W hW=>by have:=HH.o tt W hW aH;rw[Hkk.o]at this;exact this);have HWr:=@Aa (Below w0 w0 wr.drew) ((HW.o.trans (HL.o.bel.mono HW.o.size)).drew);have t20i:(xs.length:Int)<20:=aH;have hx20:xs.length<=19:=aH;have d1:(0:Int)<=(d:Int):=aH;have d2:(d:Int)<=1000:=aH;have hwd:IntKind.i64.wrap (d:Int)=(d:Int):=IntWalk.i64_in _ aH;clear t20 h20;go_wp2_with fail;refine Ge [35,36,37,38,39,40,41,34,42,43,44,12,13,14]
     (fun ix v W=>match ix with|0=>v=.agg #[xv]|1=>v=(tt:List UInt8)|2=>v=(91::kp:List UInt8)|3=>v=(kp:List UInt8)|4=>v=.int .i64 dd|5=>v=(d:Int)|_=>True)
     (fun L U W=>Gh (SrQ wr.drew S k.part (An S 20 d k.part tt)) wr.drew (L 6) (L 7) (L 8) (L 9) (L 10) (L 11) (L 12) (L 13) (U 6) (U 7) (U 8) (U 9) (U 10) (U 11) (U 12) (U 13) W) (⟨fun _=>rfl,fun h=>Bool.noConfusion h⟩) ?_ ?_
    ·repeat (first|exact Ah.nil|(refine Ah.cons ?_ ?_;rotate_left))
     all_goals
      rintro L U W hL hpre HR Hdep K hK;first|(simp[Region.binds]at hpre;done)|simp[Region.binds]at hpre|clear hpre
     ·have h6:L 6=false:=Ax Hdep.o 6 0 rfl hL;have hW:=HR.o.no h6;subst hW;go_simp;first|exact hK _ _ _ rfl Ac HR.o rfl|exact kF hK HR.o
     iterate 2
      ·exact hG
     ·go_simp;rw[if_pos aH];go_simp;exact hK kp _ _ rfl Ac HR.o aI
     ·exact hG
     ·exact jF
     ·have h7:L 7=false:=Ax Hdep.o 7 6 rfl hL;have h8:L 8=false:=Ax Hdep.o 8 7 rfl h7;have h9:L 9=false:=Ax Hdep.o 9 7 rfl h7;have h10:L 10=false:=Ax Hdep.o 10 7 rfl h7;have h11:L 11=false:=Ax Hdep.o 11 8 rfl h8;have h12:L 12=false:=Ax Hdep.o 12 9 rfl h9;have h13:L 13=false:=Ax Hdep.o 13 10 rfl h10;have hW:=HR.o.no hL;subst hW;go_simp;refine(HC.o _ HWr.o).mono ?_;rintro e w5 hp;obtain⟨vp,vr,vk,rfl,hq5⟩:=hp.q;go_simp;refine hK (.tuple #[vp,vr,vk]) _ _ Ac Ac ⟨fun h=>by simp at h,fun _=>⟨vp,vr,vk,hq5,rfl,?_,?_,?_,?_,?_,?_,?_⟩⟩ aI;all_goals (intro h;simp_all)
     ·have l6:=hpre;obtain⟨vp,vr,vk,q1,q2,q3,q4,q5,q6,q7,q8,q9⟩:=HR.o.yes l6;go_simp;exact hK (U 6) _ _ Ac Ac ⟨fun h=>absurd (l6.symm.trans h) aK,fun _=>⟨vp,vr,vk,q1,q2,fun _=>q2,q4,q5,q6,q7,q8,q9⟩⟩ eM
     ·have l7:=hpre;have l6:L 6=true:=Jx (Ax Hdep.o 7 6 rfl) l7;obtain⟨vp,vr,vk,q1,q2,q3,q4,q5,q6,q7,q8,q9⟩:=HR.o.yes l6;have u7:=q3 l7;simp only[u7];go_simp;exact hK vp _ _ Ac Ac ⟨fun h=>absurd (l6.symm.trans h) aK,fun _=>⟨vp,vr,vk,q1,q2,q3,fun _=>rfl,q5,q6,q7,q8,q9⟩⟩ fB
     ·have l7:=hpre;have l6:L 6=true:=Jx (Ax Hdep.o 7 6 rfl) l7;obtain⟨vp,vr,vk,q1,q2,q3,q4,q5,q6,q7,q8,q9⟩:=HR.o.yes l6;have u7:=q3 l7;simp only[u7];go_simp;exact hK vr _ _ Ac Ac ⟨fun h=>absurd (l6.symm.trans h) aK,fun _=>⟨vp,vr,vk,q1,q2,q3,q4,fun _=>rfl,q6,q7,q8,q9⟩⟩ fB
     ·have l7:=hpre;have l6:L 6=true:=Jx (Ax Hdep.o 7 6 rfl) l7;obtain⟨vp,vr,vk,q1,q2,q3,q4,q5,q6,q7,q8,q9⟩:=HR.o.yes l6;have u7:=q3 l7;simp only[u7];go_simp;exact hK vk _ _ Ac Ac ⟨fun h=>absurd (l6.symm.trans h) aK,fun _=>⟨vp,vr,vk,q1,q2,q3,q4,q5,fun _=>rfl,q7,q8,q9⟩⟩ fB
     ·have l8:=hpre.1;have l7:L 7=true:=Jx (Ax Hdep.o 8 7 rfl) l8;have l6:L 6=true:=Jx (Ax Hdep.o 7 6 rfl) l7;obtain⟨vp,vr,vk,q1,q2,q3,q4,q5,q6,q7,q8,q9⟩:=HR.o.yes l6;go_simp;exact hK (U 8) _ _ Ac Ac ⟨fun h=>absurd (l6.symm.trans h) aK,fun _=>⟨vp,vr,vk,q1,q2,q3,q4,q5,q6,fun _=>q4 l8,q8,q9⟩⟩ (by simp[Act.put,hpre,q2,q3 l7,q4,q5,q6,q7,q8,q9,l8])
     ·have l9:=hpre.1;have l7:L 7=true:=Jx (Ax Hdep.o 9 7 rfl) l9;have l6:L 6=true:=Jx (Ax Hdep.o 7 6 rfl) l7;obtain⟨vp,vr,vk,q1,q2,q3,q4,q5,q6,q7,q8,q9⟩:=HR.o.yes l6;go_simp;exact hK (U 9) _ _ Ac Ac ⟨fun h=>absurd (l6.symm.trans h) aK,fun _=>⟨vp,vr,vk,q1,q2,q3,q4,q5,q6,q7,fun _=>q5 l9,q9⟩⟩ (by simp[Act.put,hpre,q2,q3 l7,q4,q5,q6,q7,q8,q9,l9])
     ·have l10:=hpre.1;have l7:L 7=true:=Jx (Ax Hdep.o 10 7 rfl) l10;have l6:L 6=true:=Jx (Ax Hdep.o 7 6 rfl) l7;obtain⟨vp,vr,vk,q1,q2,q3,q4,q5,q6,q7,q8,q9⟩:=HR.o.yes l6;go_simp;exact hK (U 10) _ _ Ac Ac ⟨fun h=>absurd (l6.symm.trans h) aK,fun _=>⟨vp,vr,vk,q1,q2,q3,q4,q5,q6,q7,q8,fun _=>q6 l10⟩⟩ (by simp[Act.put,hpre,q2,q3 l7,q4,q5,q6,q7,q8,q9,l10])
    rintro L U W hL hφ hR;clear hφ;obtain⟨vp,vr,vk,hq5,_,_,_,_,_,q7,q8,q9⟩:=hR.yes (hL 6 aK);have u11:=q7 (hL 11 aK);have u12:=q8 (hL 12 aK);have u13:=q9 (hL 13 aK);simp only[u11,u12,u13];clear hR hL q7 q8 q9 u11 u12 u13;obtain⟨hb5,hm⟩:=hq5;have HB5:=@Aa (Below wr wr W) ((Aq _ _).drew.trans hb5);have HS5:=Aa (HL.o.st.after HB5.o);have Hw5:=Aa (HL.o.bel.trans (HB5.o.mono HL.o.bel.size));have Hx5:=@Aa (W.cell? (w,0)=some xv) ((HB5.o.cell (p:=⟨w.heap.size,0,none⟩) (by show w.heap.size<wr.heap.size;omega)).trans c0);have hz5:=hb5.size;have Hit:=@Aa (Cx (An S 20 d k.part) 20 s=Qo vs (Cx (An S 20 d k.part) (19 - vs.length+1) tt)) (by rw[HL.o.it];congr 2;have:=HL.o.len;omega);clear c3 c0 hb5;cases hk:An S 20 d k.part tt with
    |none=>
     rw[hk]at hm;obtain⟨⟨q0,rfl⟩,⟨r0,rfl⟩,rfl⟩:=hm;have HN:=@Aa (q=none) (by rw[HQ2.o,Hit.o];unfold Cx;rw[hk];simp[Qo]);clear hk;go_wp2_with fail;refine aF (v:=.tuple #[.pointer none,tt,.bool false]) (by simp[results,results67,go_sem]) rfl ?_;exact Bl.no HN.o rfl Hw5.o
    |some y=>
     obtain⟨v,r⟩:=y;rw[hk]at hm;obtain⟨⟨b,rfl,hsv⟩,rfl,rfl⟩:=hm;have hrl:r.length<=tt.length:=by rw[HG.o tt v r hk];simp
     have Hsv5:=Aa (show Fl (fun c1=>w.heap.size+2<=c1/\(Value.slice A xs.length c).ownBlock≠some c1/\(Value.slice none 0 0).ownBlock≠some c1) W b (Cq S k.part v)from by
      refine hsv.mono fun c1 hc _=>⟨ad HL.o.st.bs hc,fun e=>?_,by simp[Value.ownBlock]⟩
      have h1:=(HL.o.st.row.lt c1 e).2;have h2:wr.heap.size<=c1:=hc;omega)
     have HI:=@Aa (Cx (An S 20 d k.part) 20 s=Qo vs (match Ar 44 r with|some q=>(match Cx (An S 20 d k.part) (19 - vs.length) q with|some (vs,z)=>some (v::vs,z)|none=>none)|none=>match Ar 93 r with|some q=>some ([v],q)|none=>none)) (by rw[Hit.o];simp only[Cx,hk];rfl);clear hk hsv;cases r with
     |nil=>
      have HN:=@Aa (q=none) (by rw[HQ2.o,HI.o];simp[Ar,Qo]);go_wp2_with fail;refine aF (v:=.tuple #[.pointer none,tt,.bool false]) (by simp[results,results67,go_sem]) rfl ?_;exact Bl.no HN.o rfl Hw5.o
     |cons c9 z=>
      by_cases h44:c9=44
      ·have HSV:=Hsv5;clear Hsv5;subst h44;have h9:((((44:UInt8).toNat:Nat):Int) != 44)=false:=rfl;have h8:((((44:UInt8).toNat:Nat):Int) == 93)=false:=rfl;have s3:=HS5.o.c3;have s4:=HS5.o.lt;go_wp2_with (at_builtin;go_loud (refine Gw _ rfl _ _ 95 rfl (w.heap.size+2) 56 (.pointer none) 8 underlying95 Vs rfl W b rfl rfl (.slice A xs.length c) xs.length (Do (xs.map (·.1))) rfl rfl HS5.o.row aZ aH HS5.o.bs ?_;intro v6 w6 hown6 hg6 hwh6;obtain⟨A6,c6,e6,hS6,hb6⟩:=HS5.o.push (x:=(b,Cq S k.part v)) HSV.o hown6 hg6 hwh6;subst e6;have HS6:=Aa hS6;have HB6:=Aa hb6;have p3:=hS6.c3;have f3:=hS6.bk.live 3;have hz6:=hS6.lt;clear hS6 hb6 hown6 hg6 hwh6))
       have hw6:=HB6.o.mono (show w.heap.size<=w.heap.size+2 by omega);have Hbel:=Aa ((Hw5.o.trans hw6).setCell (p:=⟨w.heap.size+1,3,none⟩) (show w.heap.size<=w.heap.size+1 by omega) (.slice A6 (xs++[(b,Cq S k.part v)]).length c6));have Hst7:=Aa HS6.o.set3;have Hbx7:=Aa ((At w6 (w.heap.size+1) 3 (.slice A6 (xs++[(b,Cq S k.part v)]).length c6)).cell ((HB6.o.cell (p:=⟨w.heap.size,0,none⟩) (show w.heap.size<w.heap.size+2 by omega)).trans Hx5.o) aL);have Heq7:=@Aa ((xs++[(b,Cq S k.part v)]).map (·.2)=(vs++[v]).map (Cq S k.part)) (by simp[HL.o.eq]);have el:(xs++[(b,Cq S k.part v)]).length=xs.length+1:=aL;rw[el]at Hbel Hst7 Hbx7
       have Hit7:=Aa (show Cx (An S 20 d k.part) 20 s=Qo (vs++[v]) (Cx (An S 20 d k.part) (20 - (vs++[v]).length) z)from by
        rw[HI.o,show 20 - (vs++[v]).length=19 - vs.length by simp];simp only[Ar,if_true];cases Cx (An S 20 d k.part) (19 - vs.length) z<;>simp[Qo])
       have Hlen7:=@Aa ((xs++[(b,Cq S k.part v)]).length=(vs++[v]).length) (by simp[HL.o.len]);go_roundw
       case rel=>exact⟨A6,c6,_,vs++[v],z,rfl,by simp at hrl;omega,⟨Hbel.o,by rw[el];exact Hst7.o,Hbx7.o,Hlen7.o,Heq7.o,Hit7.o,by simp at hrl;omega⟩⟩
       case measure=>simp[Qr,ByteArray.size]at hrl ⊢;omega
      by_cases h93:c9=93
      ·have HSV:=Hsv5;clear Hsv5;subst h93;have h9:((((93:UInt8).toNat:Nat):Int) != 44)=true:=rfl;have h7:((((93:UInt8).toNat:Nat):Int) != 93)=false:=rfl;have h8:((((93:UInt8).toNat:Nat):Int) == 93)=true:=rfl;have s3:=HS5.o.c3;have s4:=HS5.o.lt;clear h44;go_wp2_with (at_builtin;go_loud (refine Gw _ rfl _ _ 95 rfl (w.heap.size+2) 56 (.pointer none) 8 underlying95 Vs rfl W b rfl rfl (.slice A xs.length c) xs.length (Do (xs.map (·.1))) rfl rfl HS5.o.row aZ aH HS5.o.bs ?_;intro v6 w6 hown6 hg6 hwh6;obtain⟨A6,c6,e6,hS6,hb6⟩:=HS5.o.push (x:=(b,Cq S k.part v)) HSV.o hown6 hg6 hwh6;subst e6;have HS6:=Aa hS6;have HB6:=Aa hb6;have p3:=hS6.c3;have f3:=hS6.bk.live 3;have hz6:=hS6.lt;clear hS6 hb6 hown6 hg6 hwh6))
       have hw6:=HB6.o.mono (show w.heap.size<=w.heap.size+2 by omega);have Hbel:=Aa ((Hw5.o.trans hw6).setCell (p:=⟨w.heap.size+1,3,none⟩) (show w.heap.size<=w.heap.size+1 by omega) (.slice A6 (xs++[(b,Cq S k.part v)]).length c6));have Hst7:=Aa HS6.o.set3;have Hbx7:=Aa ((At w6 (w.heap.size+1) 3 (.slice A6 (xs++[(b,Cq S k.part v)]).length c6)).cell ((HB6.o.cell (p:=⟨w.heap.size,0,none⟩) (show w.heap.size<w.heap.size+2 by omega)).trans Hx5.o) aL);have Heq7:=@Aa ((xs++[(b,Cq S k.part v)]).map (·.2)=(vs++[v]).map (Cq S k.part)) (by simp[HL.o.eq]);have el:(xs++[(b,Cq S k.part v)]).length=xs.length+1:=aL;rw[el]at Hbel Hst7 Hbx7;have HY:=@Aa (q=some (.mk 91 [] 0 (vs++[v]),z)) (by rw[HQ2.o,HI.o];simp[Ar,Qo]);refine aF (v:=.tuple #[(w,1,0),.string ⟨z.toArray⟩,.bool true]) (by simp[results,results67,go_sem]) rfl ?_;rw[HY.o];refine⟨⟨w.heap.size+1,rfl,?_⟩,Hbel.o⟩;rw[Hsv.o,<-Heq7.o];have hd:=Hst7.o.done (kind:=91::kp) (text:=[]) aL aM;exact hd.mono fun c1 hc _=>by have:w.heap.size+1<=c1:=hc;show w.heap.size<=c1;omega
      have HN:=@Aa (q=none) (by rw[HQ2.o,HI.o];simp[Ar,Qo,h44,h93]);have t44:((c9.toNat:Int) != 44)=true:=by have:=Am h44;simpa using this
      have t93:((c9.toNat:Int) != 93)=true:=by have:=Am h93;simpa using this
      clear h44 h93;go_wp2_with fail;refine aF (v:=.tuple #[.pointer none,tt,.bool false]) (by simp[results,results67,go_sem]) rfl ?_;exact Bl.no HN.o rfl Hw5.o
   ·have t20:decide ((xs.length:Int)<20)=false:=aC aH;go_wp2_with fail;refine aF (v:=.tuple #[.pointer none,tt,.bool false]) (by simp[results,results67,go_sem]) rfl ?_;refine Bl.no ?_ rfl HL.o.bel;have h0:=HL.o.it;rw[show 20 - vs.length=0 by have:=HL.o.len;omega]at h0;rw[HQ2.o,h0];simp[Cx,Qo]
theorem SrQ.post{S:List Ty}{k:Kd}{o:Option (Vl × List UInt8)}{w w1 w':World}{vp vr vk:Value}(hb:Below w w w1)(h:SrQ w1 S k o w' vp vr vk):Bl S k o w (.returned (.tuple #[vp,vr,vk])) w':=by
 obtain⟨h1,h2⟩:=h;refine⟨?_,hb.trans (h1.mono hb.size)⟩;cases o with
 |none=>obtain⟨⟨q,rfl⟩,⟨r,rfl⟩,rfl⟩:=h2;exact⟨q,r,rfl⟩
 |some x=>obtain⟨⟨b,rfl,hs⟩,rfl,rfl⟩:=h2;exact⟨b,rfl,hs.mono fun c hc _=>ad hb.size hc⟩
theorem Qdw(S:List Ty)(m d:Nat)(k:Kd)(hs0:k.signs=[])(hb:k.base=[110]\/k.base=[116]\/k.base=[102]):An S m (d+1) k []=none:=by
 unfold An;rw[hs0];rcases hb with hb|hb|hb<;>rw[hb]<;>rfl
theorem Qbd(S:List Ty)(xv:Value)(hxv:xv.oneCell'=true)(k:Kd)(hs0:k.signs=[])(hb:k.base=[110]\/k.base=[116]\/k.base=[102])(d:Nat)(hd:d<=1000)(s:List UInt8)(w:World)(hs:s.length<=1000000):
  Calls prog 43 #[.agg #[xv],s,.string ⟨(Bj k).toArray⟩,.int .i64 ((d+1:Nat):Int)] w (Bl S k (An S 20 (d+1) k s) w):=by
 have HN:=Aa (Qdw S 20 d k hs0 hb);have d1:¬((((d+1:Nat):Int))<1):=aH;have d2:(((d+1:Nat):Int))<=1001:=aH;by_cases hne:s=[]
 ·subst hne;generalize hq:An S 20 (d+1) k []=q at *
  have hk2:∃kb:List UInt8,kb.length<=20/\Bj k=kb:=⟨_,by
   have:Bj k=k.base:=by unfold Bj Bs;rw[hs0];rcases hb with hb|hb|hb<;>rw[hb]<;>rfl
   rw[this];rcases hb with hb|hb|hb<;>rw[hb]<;>decide,rfl⟩
  obtain⟨kb,hkl,hkb⟩:=hk2;rw[hkb];generalize (((d+1:Nat):Int))=dd at *;clear hq hb hs0 hkb;go_enter func43,ntmps43;go_wp2_with fail;refine aF (v:=.tuple #[.pointer none,a8,.bool false]) (by simp[results,results43,go_sem]) rfl ?_;exact Bl.no HN.o rfl ((Aq _ _).alloc (Ap _) _)
 have he:s.isEmpty=false:=da;have HP:∀W,Calls prog 69 #[.agg #[xv],s,.string ⟨(Bj k).toArray⟩] W (Bl S k (An S 20 (d+1) k s) W):=by
  intro W;rcases hb with hb|hb|hb
  ·have hk:Bj k=[110]:=cr;rw[hk];exact Qgq S xv hxv s k hs0 hb W aH _ fD
  ·have hk:Bj k=[116]:=cr;rw[hk];exact Qfe S xv hxv s k hs0 hb W aH hne _ fD
  have hk:Bj k=[102]:=cr;rw[hk];exact Qgc S xv hxv s k hs0 hb W aH _ fD
 have hk2:∃kb:UInt8,(kb=110\/kb=116\/kb=102)/\Bj k=[kb]:=by
  rcases hb with hb|hb|hb
  ·exact⟨110,.inl rfl,by unfold Bj Bs;rw[hs0,hb];rfl⟩
  ·exact⟨116,.inr (.inl rfl),by unfold Bj Bs;rw[hs0,hb];rfl⟩
  exact⟨102,.inr (.inr rfl),by unfold Bj Bs;rw[hs0,hb];rfl⟩
 obtain⟨kb,hkl,hkb⟩:=hk2;rw[hkb]at HP ⊢;generalize hq:An S 20 (d+1) k s=q at *;generalize (((d+1:Nat):Int))=dd at *;have HP:=Aa HP;clear hq hb hs0 hkb hne;rcases hkl with rfl|rfl|rfl<;>
 ·go_enter func43,ntmps43;go_wp2_with fail;refine(HP.o _).mono ?_;rintro e w5 hp;obtain⟨vp,vr,vk,rfl,hq5⟩:=hp.q;have Hq5:=Aa hq5;clear hq5 hp;go_wp2_with fail;refine aF (v:=.tuple #[vp,vr,vk]) (by simp[results,results43,go_sem]) rfl ?_;exact Hq5.o.post ((Aq _ _).alloc (Ap _) _)
theorem Tt(K:List UInt8->Option (Vl × List UInt8)):∀(m:Nat) (s:List UInt8) (vs:List Vl) (q:List UInt8),Cx K m s=some (vs,q)->vs.length<=m
 |0,s,vs,q,h=>by simp[Cx]at h
 |m+1,s,vs,q,h=>by
  unfold Cx at h;cases hk:K s with
  |none=>rw[hk]at h;cases h
  |some y=>
   rw[hk]at h;simp only at h;cases h1:Ar 44 y.2 with
   |some z=>
    rw[h1]at h;simp only at h;cases h2:Cx K m z with
    |none=>rw[h2]at h;cases h
    |some x=>
     rw[h2]at h;injection h with h;injection h with h _;have:=Tt K m z x.1 x.2 h2;rw[<-h];simp;omega
   |none=>
    rw[h1]at h;simp only at h;cases h2:Ar 93 y.2 with
    |none=>rw[h2]at h;cases h
    |some z=>rw[h2]at h;injection h with h;injection h with h _;rw[<-h];simp
theorem Qd0(K:List UInt8->Option (Vl × List UInt8))(z:List UInt8):S1 K 20 (91::z)=Qe2 K z:=by
 unfold S1 Qe2;rw[Bq];simp only;cases Ar 93 z with
 |some q=>rfl
 |none=>
  simp only;cases h:Cx K 20 z with
  |none=>rfl
  |some x=>simp[Tt K 20 z x.1 x.2 h]
theorem Qea(w0:World)(S:List Ty)(xv:Value)(hxv:xv.oneCell'=true)(k:Kd)(sg:List UInt8)(hsg:k.signs=91::sg)(hkl:(Bj k).length<=100)(d:Nat)(hd:d<=1000)(s:List UInt8)(w:World)(hw:Below w0 w0 w)(hs:s.length<=1000000)
  (H:SrC w0 S xv k.part d) (HG:∀s v r,An S 20 d k.part s=some (v,r)->s=Bc v++r):
  Calls prog 43 #[.agg #[xv],.string ⟨s.toArray⟩,.string ⟨(Bj k).toArray⟩,.int .i64 ((d+1:Nat):Int)] w (Bl S k (An S 20 (d+1) k s) w):=by
 have hq:An S 20 (d+1) k s=S1 (An S 20 d k.part) 20 s:=by unfold An;rw[hsg];rfl
 have HN:=@Aa (Ar 91 s=none->An S 20 (d+1) k s=none) (fun h=>by rw[hq];unfold S1;rw[h])
 have HC:=Aa (show ∀z,s=91::z->∀W,Below w0 w0 W->Calls prog 67 #[.agg #[xv],.string ⟨z.toArray⟩,.string ⟨(Bj k).toArray⟩,.int .i64 ((d+1:Nat):Int)] W (Bl S k (An S 20 (d+1) k s) W)from by
  rintro z rfl W hW;exact Qd6 w0 S xv hxv k sg hsg hkl d hd z W hW gw H HG _ (by rw[hq,Qd0]))
 have hkp:Bj k=91::Bj k.part:=by unfold Bj Kd.part;rw[hsg];rfl
 have d1:¬((((d+1:Nat):Int))<1):=aH;have d2:(((d+1:Nat):Int))<=1001:=aH;have HW:=@Aa (Below w0 w0 (w.alloc (.cells #[xv] 92)).drew) ((hw.alloc hw.size _).drew);rw[hkp]at HC hkl ⊢;generalize Bj k.part=kp at *;generalize An S 20 (d+1) k s=q at *;generalize (((d+1:Nat):Int))=dd at *;have hkl2:kp.length<=100:=ft;clear H HG hq hkp hsg hkl hw hd;cases s with
 |nil=>
  have HN:=Aa (HN.o rfl);go_enter func43,ntmps43;go_wp2_with fail;refine aF (v:=.tuple #[.pointer none,a8,.bool false]) (by simp[results,results43,go_sem]) rfl ?_;exact Bl.no HN.o rfl ((Aq _ _).alloc (Ap _) _)
 |cons c z=>
  by_cases hc:c=91
  ·subst hc;have HC:=Aa (fun W=>HC.o z rfl W);go_enter func43,ntmps43;go_wp2_with fail;refine Ge [29,30,31,32,33,34,35,36,37,8,9,10]
    (fun ix v W=>match ix with|0=>v=.agg #[xv]|1=>v=.string ⟨(91::z:List UInt8).toArray⟩|2=>v=.string ⟨(z:List UInt8).toArray⟩|3=>v=(91::kp:List UInt8)|4=>v=.int .i64 dd|_=>True)
    (fun L U W=>Gh (SrQ (w.alloc (.cells #[xv] 92)).drew S k q) ((w.alloc (.cells #[xv] 92)).drew) (L 5) (L 5) (L 6) (L 7) (L 8) (L 9) (L 10) (L 11) (U 5) (U 5) (U 6) (U 7) (U 8) (U 9) (U 10) (U 11) W) (⟨fun _=>rfl,fun h=>Bool.noConfusion h⟩) ?_ ?_
   ·repeat (first|exact Ah.nil|(refine Ah.cons ?_ ?_;rotate_left))
    all_goals
     rintro L U W hL hpre HR Hdep K hK;first|(simp[Region.binds]at hpre;done)|simp[Region.binds]at hpre|clear hpre
    ·have h5:L 5=false:=Ax Hdep.o 5 0 rfl hL;have hW:=HR.o.no h5;subst hW;go_simp;first|exact hK _ _ _ rfl Ac HR.o rfl|exact kF hK HR.o
    ·exact hG
    ·go_simp;rw[if_pos aH];go_simp;exact hK (.string ⟨z.toArray⟩) _ _ rfl Ac HR.o aI
    iterate 2
     ·exact hG
    ·have h6:L 6=false:=Ax Hdep.o 6 5 rfl hL;have h7:L 7=false:=Ax Hdep.o 7 5 rfl hL;have h8:L 8=false:=Ax Hdep.o 8 5 rfl hL;have h9:L 9=false:=Ax Hdep.o 9 6 rfl h6;have h10:L 10=false:=Ax Hdep.o 10 7 rfl h7;have h11:L 11=false:=Ax Hdep.o 11 8 rfl h8;have hW:=HR.o.no hL;subst hW;go_simp;refine(HC.o _ HW.o).mono ?_;rintro e w5 hp;obtain⟨vp,vr,vk,rfl,hq5⟩:=hp.q;go_simp;refine hK (.tuple #[vp,vr,vk]) _ _ Ac Ac ⟨fun h=>by simp at h,fun _=>⟨vp,vr,vk,hq5,rfl,fun _=>rfl,?_,?_,?_,?_,?_,?_⟩⟩ aI;all_goals (intro h;simp_all)
    ·have l5:=hpre;obtain⟨vp,vr,vk,q1,q2,q3,q4,q5,q6,q7,q8,q9⟩:=HR.o.yes l5;simp only[q2];go_simp;exact hK vp _ _ Ac Ac ⟨fun h=>absurd (l5.symm.trans h) aK,fun _=>⟨vp,vr,vk,q1,q2,q3,fun _=>rfl,q5,q6,q7,q8,q9⟩⟩ eM
    ·have l5:=hpre;obtain⟨vp,vr,vk,q1,q2,q3,q4,q5,q6,q7,q8,q9⟩:=HR.o.yes l5;simp only[q2];go_simp;exact hK vr _ _ Ac Ac ⟨fun h=>absurd (l5.symm.trans h) aK,fun _=>⟨vp,vr,vk,q1,q2,q3,q4,fun _=>rfl,q6,q7,q8,q9⟩⟩ eM
    ·have l5:=hpre;obtain⟨vp,vr,vk,q1,q2,q3,q4,q5,q6,q7,q8,q9⟩:=HR.o.yes l5;simp only[q2];go_simp;exact hK vk _ _ Ac Ac ⟨fun h=>absurd (l5.symm.trans h) aK,fun _=>⟨vp,vr,vk,q1,q2,q3,q4,q5,fun _=>rfl,q7,q8,q9⟩⟩ eM
    ·have l6:=hpre.1;have l5:L 5=true:=Jx (Ax Hdep.o 6 5 rfl) l6;obtain⟨vp,vr,vk,q1,q2,q3,q4,q5,q6,q7,q8,q9⟩:=HR.o.yes l5;go_simp;exact hK (U 6) _ _ Ac Ac ⟨fun h=>absurd (l5.symm.trans h) aK,fun _=>⟨vp,vr,vk,q1,q2,q3,q4,q5,q6,fun _=>q4 l6,q8,q9⟩⟩ (by simp[Act.put,hpre,q2,q4,q5,q6,q7,q8,q9,l6])
    ·have l7:=hpre.1;have l5:L 5=true:=Jx (Ax Hdep.o 7 5 rfl) l7;obtain⟨vp,vr,vk,q1,q2,q3,q4,q5,q6,q7,q8,q9⟩:=HR.o.yes l5;go_simp;exact hK (U 7) _ _ Ac Ac ⟨fun h=>absurd (l5.symm.trans h) aK,fun _=>⟨vp,vr,vk,q1,q2,q3,q4,q5,q6,q7,fun _=>q5 l7,q9⟩⟩ (by simp[Act.put,hpre,q2,q4,q5,q6,q7,q8,q9,l7])
    ·have l8:=hpre.1;have l5:L 5=true:=Jx (Ax Hdep.o 8 5 rfl) l8;obtain⟨vp,vr,vk,q1,q2,q3,q4,q5,q6,q7,q8,q9⟩:=HR.o.yes l5;go_simp;exact hK (U 8) _ _ Ac Ac ⟨fun h=>absurd (l5.symm.trans h) aK,fun _=>⟨vp,vr,vk,q1,q2,q3,q4,q5,q6,q7,q8,fun _=>q6 l8⟩⟩ (by simp[Act.put,hpre,q2,q4,q5,q6,q7,q8,q9,l8])
   rintro L U W hL hφ hR;clear hφ;obtain⟨vp,vr,vk,hq5,_,_,_,_,_,q7,q8,q9⟩:=hR.yes (hL 5 aK);have u11:=q7 (hL 9 aK);have u12:=q8 (hL 10 aK);have u13:=q9 (hL 11 aK);simp only[u11,u12,u13];have Hq5:=Aa hq5;clear hR hL q7 q8 q9 u11 u12 u13 hq5;go_wp2_with fail;refine aF (v:=.tuple #[vp,vr,vk]) (by simp[results,results43,go_sem]) rfl ?_;exact Hq5.o.post ((Aq _ _).alloc (Ap _) _).drew
  have HN:=Aa (HN.o (Di hc z));have hcn:((c.toNat:Int) != 91)=true:=by have:=Am hc;simpa using this
  clear hc;go_enter func43,ntmps43;go_wp2_with fail;refine aF (v:=.tuple #[.pointer none,.string ⟨(c::z:List UInt8).toArray⟩,.bool false]) (by simp[results,results43,go_sem]) rfl ?_;exact Bl.no HN.o rfl ((Aq _ _).alloc (Ap _) _)
theorem Qdu(w0:World)(S:List Ty)(xv:Value)(hxv:xv.oneCell'=true)(k:Kd)(sg:List UInt8)(hsg:k.signs=63::sg)(hkl:(Bj k).length<=100)(d:Nat)(hd:d<=1000)(s:List UInt8)(w:World)(hw:Below w0.heap.size w0 w)(hs:s.length<=1000000)
  (H:SrC w0 S xv k.part d):
  Calls prog 43 #[.agg #[xv],.string ⟨s.toArray⟩,.string ⟨(Bj k).toArray⟩,.int .i64 ((d+1:Nat):Int)] w (Bl S k (An S 20 (d+1) k s) w):=by
 have hq:An S 20 (d+1) k s=Qac (An S 20 d k.part) s:=by unfold An;rw[hsg];rfl
 have HN:=Aa (show Ar 45 s=none->Ar 43 s=none->An S 20 (d+1) k s=none from fun h h2=>by rw[hq];unfold Qac;rw[h];simp only;rw[h2])
 have HM:=Aa (show ∀z,s=45::z->An S 20 (d+1) k s=some (.mk 63 [] 0 [],z)from by rintro z rfl;rw[hq];rfl)
 have HP:=Aa (show ∀z,s=43::z->An S 20 (d+1) k s=match An S 20 d k.part z with|some (v,q)=>some (.mk 63 [] 0 [v],q)|none=>none from by rintro z rfl;rw[hq];rfl)
 have hkp:Bj k=63::Bj k.part:=by unfold Bj Kd.part;rw[hsg];rfl
 have Hsv:=Aa (fun ks=>hkp ▸ Kr S k ks)
 have HC:=Aa (show ∀z,z.length<=1000000->∀W,Below w0.heap.size w0 W->Calls prog 43 #[.agg #[xv],.string ⟨z.toArray⟩,.string ⟨(Bj k.part).toArray⟩,.int .i64 (d:Int)] W (Bl S k.part (An S 20 d k.part z) W)from fun z hz W hW=>H z W hW hz)
 have d1:¬((((d+1:Nat):Int))<1):=by omega
 have d2:(((d+1:Nat):Int))<=1001:=by omega
 have d3:(((d+1:Nat):Int)) - 1=(d:Int):=by omega
 have d4:(0:Int)<=(d:Int):=by omega
 have d5:(d:Int)<=1000:=by omega
 have hwd:IntKind.i64.wrap (d:Int)=(d:Int):=IntWalk.i64_in _ (by omega)
 have HW:=Aa (show Below w0.heap.size w0 (w.alloc (.cells #[xv] 92)).drew from(hw.alloc hw.size _).drew)
 rw[hkp]at hkl ⊢
 generalize Bj k.part=kp at *
 generalize An S 20 (d+1) k s=q at *
 generalize (((d+1:Nat):Int))=dd at *
 have hkl2:kp.length<=100:=by simp at hkl;omega
 clear H hq hkp hsg hkl hw hd
 cases s with
 |nil=>
  have HN:=Aa (HN.o rfl rfl)
  go_enter func43,ntmps43
  go_wp2_with fail
  refine bodyPost_ret (v:=.tuple #[.pointer none,.string ⟨#[]⟩,.bool false]) (by simp[results,results43,go_sem]) rfl ?_
  exact Bl.no HN.o rfl ((Aq _ _).alloc (Ap _) _)
 |cons c z=>
  by_cases hc:c=45
  ·subst hc
   have HM:=Aa (HM.o z rfl)
   go_enter func43,ntmps43
   go_wp2_with fail
   refine Ge [43,44,45,46,47,8,9,10]
    (fun ix v W=>match ix with|0=>v=.string ⟨(63::kp:List UInt8).toArray⟩|1=>v=.agg #[.string ⟨(63::kp:List UInt8).toArray⟩,.string ⟨#[]⟩,.slice none 0 0,.slice none 0 0]|2=>∃c,v=.pointer (some ⟨c,0,none⟩)|3=>v=.string ⟨(45::z:List UInt8).toArray⟩|4=>v=.string ⟨(z:List UInt8).toArray⟩|5=>∃c,v=.pointer (some ⟨c,0,none⟩)|6=>v=.string ⟨(z:List UInt8).toArray⟩|7=>v=.bool true|_=>True)
    (fun L U W=>(L 2=false->Below w.heap.size w W)/\(L 2=true->∃W7,W=W7.alloc (.cells #[.string ⟨(63::kp:List UInt8).toArray⟩,.string ⟨#[]⟩,.slice none 0 0,.slice none 0 0] 97)/\Below w.heap.size w W7/\U 2=.pointer (some ⟨W7.heap.size,0,none⟩))/\(L 5=true->U 5=U 2)) (⟨fun _=>((Aq w.heap.size w).alloc (Ap _) _).drew,fun h=>Bool.noConfusion h,fun h=>Bool.noConfusion h⟩) ?_ ?_
   ·repeat (first|exact Ah.nil|(refine Ah.cons ?_ ?_;rotate_left))
    all_goals
     rintro L U W hL hpre HR Hdep K hK
     first|(simp[Region.binds]at hpre;done)|simp[Region.binds]at hpre|clear hpre
    iterate 2
     ·go_simp
      first|exact hK _ _ _ rfl Ac HR.o rfl|exact kF hK HR.o|exact hK undef _ _ Ac Ac HR.o (by simp[Act.put,hpre])|exact hK _ _ _ Ac Ac HR.o rfl|exact kF hK HR.o
    ·obtain⟨R1,R2,R3⟩:=HR.o
     have hB:=R1 hL
     have h10:L 5=false:=Ax Hdep.o 5 2 rfl hL
     go_simp
     exact hK (.pointer (some ⟨W.heap.size,0,none⟩)) _ _ ⟨_,rfl⟩ Ac ⟨fun h=>by simp at h,fun _=>⟨W,rfl,hB,rfl⟩,fun h=>absurd (h10.symm.trans (by simpa using h)) (by decide)⟩ (by simp[Act.put,hpre])
    ·go_simp
     first|exact hK _ _ _ rfl Ac HR.o rfl|exact kF hK HR.o|exact hK undef _ _ Ac Ac HR.o (by simp[Act.put,hpre])|exact hK _ _ _ Ac Ac HR.o rfl|exact kF hK HR.o
    ·go_simp
     rw[if_pos (by omega)]
     go_simp
     exact hK (.string ⟨z.toArray⟩) _ _ rfl Ac HR.o (by simp[Act.put,hpre])
    ·obtain⟨R1,R2,R3⟩:=HR.o
     obtain⟨c,u5⟩:=hpre.1.2
     clear R1 R2 R3
     go_simp
     obtain⟨R1,R2,R3⟩:=HR.o
     exact hK (.pointer (some ⟨c,0,none⟩)) _ _ ⟨c,rfl⟩ Ac ⟨R1,R2,fun _=>u5.symm⟩ (by simp[Act.put,hpre,u5])
    iterate 2
     ·go_simp
      first|exact hK _ _ _ rfl Ac HR.o rfl|exact kF hK HR.o|exact hK undef _ _ Ac Ac HR.o (by simp[Act.put,hpre])|exact hK _ _ _ Ac Ac HR.o rfl|exact kF hK HR.o
   rintro L U W hL hφ hR
   have hφ10:U 5=U 2:=hR.2.2 (hL 5 (by decide))
   have e11:U 6=.string ⟨(z:List UInt8).toArray⟩:=hφ 6 (by decide)
   have e12:U 7=.bool true:=hφ 7 (by decide)
   clear hφ
   obtain⟨_,h2,h3⟩:=hR
   obtain⟨W7,rfl,hb7,u5⟩:=h2 (hL 2 (by decide))
   rw[u5]at hφ10
   clear hL h2
   simp only[hφ10,e11,e12]
   clear hφ10
   go_wp2_with fail
   refine bodyPost_ret (v:=.tuple #[.pointer (some ⟨W7.heap.size,0,none⟩),.string ⟨z.toArray⟩,.bool true]) (by simp[results,results43,go_sem]) rfl ?_
   have hz7:=hb7.size
   have Hb7:=(hb7.alloc (by omega) (.cells #[.string ⟨(63::kp:List UInt8).toArray⟩,.string ⟨#[]⟩,.slice none 0 0,.slice none 0 0] 97))
   rw[HM.o]
   refine⟨⟨W7.heap.size,rfl,?_⟩,Hb7⟩
   rw[Hsv.o]
   exact Fl.leaf (P:=fun c=>w.heap.size<=c) (kind:=63::kp) (text:=[]) (by omega)
  by_cases hc2:c=43
  ·subst hc2
   have HP:=Aa (HP.o z rfl)
   have HC:=Aa (fun W hW=>HC.o z (by simp at hs;omega) W hW)
   clear hc
   go_enter func43,ntmps43
   go_wp2_with fail
   refine Ge [53,54,55,56,57,58,59,60,52,61,62,63,11,12,13]
    (fun ix v W=>match ix with|0=>v=.agg #[xv]|1=>v=.string ⟨(43::z:List UInt8).toArray⟩|2=>v=.string ⟨(z:List UInt8).toArray⟩|3=>v=.string ⟨(63::kp:List UInt8).toArray⟩|4=>v=.string ⟨(kp:List UInt8).toArray⟩|5=>v=.int .i64 dd|6=>v=.int .i64 (d:Int)|_=>True)
    (fun L U W=>Gh (SrQ (w.alloc (.cells #[xv] 92)).drew S k.part (An S 20 d k.part z)) ((w.alloc (.cells #[xv] 92)).drew) (L 7) (L 8) (L 9) (L 10) (L 11) (L 12) (L 13) (L 14) (U 7) (U 8) (U 9) (U 10) (U 11) (U 12) (U 13) (U 14) W) (⟨fun _=>rfl,fun h=>Bool.noConfusion h⟩) ?_ ?_
   ·repeat (first|exact Ah.nil|(refine Ah.cons ?_ ?_;rotate_left))
    all_goals
     rintro L U W hL hpre HR Hdep K hK
     first|(simp[Region.binds]at hpre;done)|simp[Region.binds]at hpre|clear hpre
    ·have h7:L 7=false:=Ax Hdep.o 7 0 rfl hL
     have hW:=HR.o.no h7
     subst hW
     go_simp
     first|exact hK _ _ _ rfl Ac HR.o rfl|exact kF hK HR.o
    ·go_simp
     first|exact hK _ _ _ rfl Ac HR.o rfl|exact kF hK HR.o|exact hK undef _ _ Ac Ac HR.o (by simp[Act.put,hpre])|exact hK _ _ _ Ac Ac HR.o rfl|exact kF hK HR.o
    ·go_simp
     rw[if_pos (by omega)]
     go_simp
     exact hK (.string ⟨z.toArray⟩) _ _ rfl Ac HR.o (by simp[Act.put,hpre])
    ·go_simp
     first|exact hK _ _ _ rfl Ac HR.o rfl|exact kF hK HR.o|exact hK undef _ _ Ac Ac HR.o (by simp[Act.put,hpre])|exact hK _ _ _ Ac Ac HR.o rfl|exact kF hK HR.o
    ·go_simp
     rw[if_pos (by omega)]
     go_simp
     exact hK (.string ⟨kp.toArray⟩) _ _ rfl Ac HR.o (by simp[Act.put,hpre])
    ·go_simp
     first|exact hK _ _ _ rfl Ac HR.o rfl|exact kF hK HR.o|exact hK undef _ _ Ac Ac HR.o (by simp[Act.put,hpre])|exact hK _ _ _ Ac Ac HR.o rfl|exact kF hK HR.o
    ·go_simp
     exact hK (.int .i64 (d:Int)) _ _ rfl Ac HR.o (by simp[Act.put,hpre,hwd])
    ·have h8:L 8=false:=Ax Hdep.o 8 7 rfl hL
     have h9:L 9=false:=Ax Hdep.o 9 8 rfl h8
     have h10:L 10=false:=Ax Hdep.o 10 8 rfl h8
     have h11:L 11=false:=Ax Hdep.o 11 8 rfl h8
     have h12:L 12=false:=Ax Hdep.o 12 9 rfl h9
     have h13:L 13=false:=Ax Hdep.o 13 10 rfl h10
     have h14:L 14=false:=Ax Hdep.o 14 11 rfl h11
     have hW:=HR.o.no hL
     subst hW
     go_simp
     refine(HC.o _ HW.o).mono ?_
     rintro e w5 hp
     obtain⟨vp,vr,vk,rfl,hq5⟩:=hp.q
     go_simp
     refine hK (.tuple #[vp,vr,vk]) _ _ Ac Ac ⟨fun h=>by simp at h,fun _=>⟨vp,vr,vk,hq5,rfl,?_,?_,?_,?_,?_,?_,?_⟩⟩ (by simp[Act.put,hpre])
     all_goals (intro h;simp_all)
    ·have l7:=hpre
     obtain⟨vp,vr,vk,q1,q2,q3,q4,q5,q6,q7,q8,q9⟩:=HR.o.yes l7
     go_simp
     exact hK (U 7) _ _ Ac Ac ⟨fun h=>absurd (l7.symm.trans h) (by decide),fun _=>⟨vp,vr,vk,q1,q2,fun _=>q2,q4,q5,q6,q7,q8,q9⟩⟩ (by simp[Act.put,hpre,q2])
    ·have l8:=hpre
     have l7:L 7=true:=Jx (Ax Hdep.o 8 7 rfl) l8
     obtain⟨vp,vr,vk,q1,q2,q3,q4,q5,q6,q7,q8,q9⟩:=HR.o.yes l7
     have u7:=q3 l8
     simp only[u7]
     go_simp
     exact hK vp _ _ Ac Ac ⟨fun h=>absurd (l7.symm.trans h) (by decide),fun _=>⟨vp,vr,vk,q1,q2,q3,fun _=>rfl,q5,q6,q7,q8,q9⟩⟩ (by simp[Act.put,hpre,u7,q2])
    ·have l8:=hpre
     have l7:L 7=true:=Jx (Ax Hdep.o 8 7 rfl) l8
     obtain⟨vp,vr,vk,q1,q2,q3,q4,q5,q6,q7,q8,q9⟩:=HR.o.yes l7
     have u7:=q3 l8
     simp only[u7]
     go_simp
     exact hK vr _ _ Ac Ac ⟨fun h=>absurd (l7.symm.trans h) (by decide),fun _=>⟨vp,vr,vk,q1,q2,q3,q4,fun _=>rfl,q6,q7,q8,q9⟩⟩ (by simp[Act.put,hpre,u7,q2])
    ·have l8:=hpre
     have l7:L 7=true:=Jx (Ax Hdep.o 8 7 rfl) l8
     obtain⟨vp,vr,vk,q1,q2,q3,q4,q5,q6,q7,q8,q9⟩:=HR.o.yes l7
     have u7:=q3 l8
     simp only[u7]
     go_simp
     exact hK vk _ _ Ac Ac ⟨fun h=>absurd (l7.symm.trans h) (by decide),fun _=>⟨vp,vr,vk,q1,q2,q3,q4,q5,fun _=>rfl,q7,q8,q9⟩⟩ (by simp[Act.put,hpre,u7,q2])
    ·have l9:=hpre.1
     have l8:L 8=true:=Jx (Ax Hdep.o 9 8 rfl) l9
     have l7:L 7=true:=Jx (Ax Hdep.o 8 7 rfl) l8
     obtain⟨vp,vr,vk,q1,q2,q3,q4,q5,q6,q7,q8,q9⟩:=HR.o.yes l7
     go_simp
     exact hK (U 9) _ _ Ac Ac ⟨fun h=>absurd (l7.symm.trans h) (by decide),fun _=>⟨vp,vr,vk,q1,q2,q3,q4,q5,q6,fun _=>q4 l9,q8,q9⟩⟩ (by simp[Act.put,hpre,q2,q3 l8,q4,q5,q6,q7,q8,q9,l9])
    ·have l10:=hpre.1
     have l8:L 8=true:=Jx (Ax Hdep.o 10 8 rfl) l10
     have l7:L 7=true:=Jx (Ax Hdep.o 8 7 rfl) l8
     obtain⟨vp,vr,vk,q1,q2,q3,q4,q5,q6,q7,q8,q9⟩:=HR.o.yes l7
     go_simp
     exact hK (U 10) _ _ Ac Ac ⟨fun h=>absurd (l7.symm.trans h) (by decide),fun _=>⟨vp,vr,vk,q1,q2,q3,q4,q5,q6,q7,fun _=>q5 l10,q9⟩⟩ (by simp[Act.put,hpre,q2,q3 l8,q4,q5,q6,q7,q8,q9,l10])
    ·have l11:=hpre.1
     have l8:L 8=true:=Jx (Ax Hdep.o 11 8 rfl) l11
     have l7:L 7=true:=Jx (Ax Hdep.o 8 7 rfl) l8
     obtain⟨vp,vr,vk,q1,q2,q3,q4,q5,q6,q7,q8,q9⟩:=HR.o.yes l7
     go_simp
     exact hK (U 11) _ _ Ac Ac ⟨fun h=>absurd (l7.symm.trans h) (by decide),fun _=>⟨vp,vr,vk,q1,q2,q3,q4,q5,q6,q7,q8,fun _=>q6 l11⟩⟩ (by simp[Act.put,hpre,q2,q3 l8,q4,q5,q6,q7,q8,q9,l11])
   rintro L U W hL hφ hR
   clear hφ
   obtain⟨vp,vr,vk,hq5,_,_,_,_,_,q7,q8,q9⟩:=hR.yes (hL 7 (by decide))
   have u11:=q7 (hL 12 (by decide))
   have u12:=q8 (hL 13 (by decide))
   have u13:=q9 (hL 14 (by decide))
   simp only[u11,u12,u13]
   clear hR hL q7 q8 q9 u11 u12 u13
   obtain⟨hb5,hm⟩:=hq5
   have Hb5:=Aa (show Below w.heap.size w W from((Aq w.heap.size w).alloc (Ap _) (.cells #[xv] 92)).drew.trans (hb5.mono (by simp)))
   have hz5:=Hb5.o.size
   generalize An S 20 d k.part z=o at *
   have HP:=HP
   cases o with
   |none=>
    have HN:=Aa (HP.o)
    obtain⟨⟨q0,rfl⟩,⟨r0,rfl⟩,rfl⟩:=hm
    clear hb5 HP
    go_wp2_with fail
    refine bodyPost_ret (v:=.tuple #[.pointer (some ⟨W.heap.size+1,0,none⟩),.string r0,.bool false]) (by simp[results,results43,go_sem]) rfl ?_
    exact Bl.no HN.o rfl ((Hb5.o.alloc Hb5.o.size _).alloc (by simp;omega) _)
   |some y=>
    obtain⟨v,r⟩:=y
    obtain⟨⟨b,rfl,hsv⟩,rfl,rfl⟩:=hm
    have HY:=Aa (show q=some (.mk 63 [] 0 [v],r)from HP.o)
    have Hsv5:=Aa (hsv.mono (Q:=fun c=>w.heap.size<=c) fun c1 hc _=>Nat.le_trans (by simp) hc)
    clear hb5 HP hsv
    go_wp2_with fail
    refine bodyPost_ret (v:=.tuple #[.pointer (some ⟨W.heap.size+1,0,none⟩),.string ⟨r.toArray⟩,.bool true]) (by simp[results,results43,go_sem]) rfl ?_
    rw[HY.o]
    refine⟨⟨W.heap.size+1,rfl,?_⟩,((Hb5.o.alloc Hb5.o.size _).alloc (by simp;omega) _)⟩
    rw[Hsv.o]
    refine .mk (63::kp) [] [] none (some ⟨W.heap.size,0,none⟩) 0 1 [(b,Cq S k.part v)] rfl (by simp) (by show w.heap.size<=W.heap.size+1;omega) (by go_simp) (by go_simp) (by go_simp) (by go_simp) ⟨rfl,Nat.zero_le _,fun h=>absurd h (by simp)⟩ ⟨rfl,by simp[maxLen],fun _=>⟨W.heap.size,0,rfl,by simp;omega,fun j u hu=>?_⟩⟩ (by simp) (by simp) (fun _ _ h=>absurd h (by simp)) (fun g o _ e=>?_) (fun x hx=>?_)
    ·match j,hu with
     |0,hu=>
      simp[Do]at hu
      subst hu
      go_simp
     |j+1,hu=>simp[Do]at hu
    ·injection e with e;injection e with e;subst e;exact hz5
    simp at hx
    subst hx
    exact Hsv5.o.after (((Aq _ _).alloc (Ap _) _).alloc (by simp) _)
  have HN:=Aa (HN.o (Di hc z) (Di hc2 z))
  have hcn:((c.toNat:Int) == 45)=false:=by have:=Am hc;simpa using this
  have hcn2:((c.toNat:Int) != 43)=true:=by have:=Am hc2;simpa using this
  clear hc hc2
  go_enter func43,ntmps43
  go_wp2_with fail
  refine bodyPost_ret (v:=.tuple #[.pointer none,.string ⟨(c::z:List UInt8).toArray⟩,.bool false]) (by simp[results,results43,go_sem]) rfl ?_
  exact Bl.no HN.o rfl ((Aq _ _).alloc (Ap _) _)
end
end Go.Proofs.YtkgkoicedddkmaaGreatDoor
