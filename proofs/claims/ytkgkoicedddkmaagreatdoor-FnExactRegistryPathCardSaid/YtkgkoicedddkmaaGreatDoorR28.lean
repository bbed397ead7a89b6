/- Texts joined. Conditions: as each theorem names them. -/
import Derived.Test.YtkgkoicedddkmaaGreatDoorR18
import Derived.Test.YtkgkoicedddkmaaGreatDoorR27
set_option maxRecDepth 100000
set_option maxHeartbeats 32000000
set_option linter.unusedVariables false
set_option linter.unusedSimpArgs false
namespace Go.Proofs.YtkgkoicedddkmaaGreatDoor
open Go.RowKit Go.Proofs.Tryz
section
attribute [local go_sem] Qiz Qii Qib Qgw ByteArray.mk_append_mk
theorem Xf(S:List Ty)(m d:Nat)(k:Kd)(hs0:k.signs=[])(hb:k.base=[64]):An S m (d+1) k []=none:=by
 unfold An;rw[hs0,hb];simp only[];rw[if_neg aK,if_neg aK,if_neg aK];cases Bp S k.name with
 |none=>rfl
 |some t=>simp[Ju,Ar]
theorem Qeu(w0:World)(S:List Ty)(xv:Value)(hxv:xv.oneCell'=true)(k:Kd)(hs0:k.signs=[])(hb:k.base=[64])(hkl:k.name.length<=100)(d:Nat)(hd:d<=1000)(s:List UInt8)(w:World)(hw:Below w0 w0 w)(hs:s.length<=1000000)
  (H:∀W,Below w0 w0 W->s≠[]->Calls prog 68 #[.agg #[xv],s,.string ⟨(Bj k).toArray⟩,.int .i64 ((d+1:Nat):Int)] W (Bl S k (An S 20 (d+1) k s) W)):
  Calls prog 43 #[.agg #[xv],s,.string ⟨(Bj k).toArray⟩,.int .i64 ((d+1:Nat):Int)] w (Bl S k (An S 20 (d+1) k s) w):=by
 have HN:=Aa (Xf S 20 d k hs0 hb);have hkb:Bj k=64::(k.name++[59]):=cr;have d1:¬((((d+1:Nat):Int))<1):=aH;have d2:(((d+1:Nat):Int))<=1001:=aH;have HW:=@Aa (Below w0 w0 (w.alloc (.cells #[xv] 92))) (hw.alloc hw.size _);have HH:=Aa H;rw[hkb]at HH ⊢;generalize hnm:k.name++[59]=kn at *;have hkn:kn.length<=101:=by rw[<-hnm];simp;omega
 by_cases hne:s=[]
 ·subst hne;generalize An S 20 (d+1) k []=q at *;generalize (((d+1:Nat):Int))=dd at *;clear H hb hs0 hkb hnm HH hw;go_enter func43,ntmps43;go_wp2_with fail;refine aF (v:=.tuple #[.pointer none,a8,.bool false]) (by simp[results,results43,go_sem]) rfl ?_;exact Bl.no HN.o rfl ((Aq _ _).alloc (Ap _) _)
 have he:s.isEmpty=false:=da;have HP:=Aa (fun W hW=>HH.o W hW hne);generalize An S 20 (d+1) k s=q at *;generalize (((d+1:Nat):Int))=dd at *;clear H hb hs0 hkb hnm hne HH hw;go_enter func43,ntmps43;go_wp2_with fail;refine(HP.o _ HW.o).mono ?_;rintro e w5 hp;obtain⟨vp,vr,vk,rfl,hq5⟩:=hp.q;have Hq5:=Aa hq5;clear hq5 hp;go_wp2_with fail;refine aF (v:=.tuple #[vp,vr,vk]) (by simp[results,results43,go_sem]) rfl ?_;exact Hq5.o.post ((Aq _ _).alloc (Ap _) _)
theorem Qbt(S:List Ty)(xv:Value)(hxv:xv.oneCell'=true)(k:Kd)(hkl:(Bj k).length<=100)(s:List UInt8)(w:World)(hs:s.length<=1000000):
  Calls prog 43 #[.agg #[xv],s,.string ⟨(Bj k).toArray⟩,.int .i64 ((0:Nat):Int)] w (Bl S k (An S 20 0 k s) w):=by
 have HN:=@Aa (An S 20 0 k s=none) rfl;generalize Bj k=kb at *;generalize An S 20 0 k s=q at *;by_cases hne:s=[]
 ·subst hne;go_enter func43,ntmps43;go_wp2_with fail;refine aF (v:=.tuple #[.pointer none,a8,.bool false]) (by simp[results,results43,go_sem]) rfl ?_;exact Bl.no HN.o rfl ((Aq _ _).alloc (Ap _) _)
 have he:s.isEmpty=false:=da;clear hne;go_enter func43,ntmps43;go_wp2_with fail;refine aF (v:=.tuple #[.pointer none,s,.bool false]) (by simp[results,results43,go_sem]) rfl ?_;exact Bl.no HN.o rfl ((Aq _ _).alloc (Ap _) _)
def NmC(w0:World)(S:List Ty)(xv:Value):Prop:=∀d,d<=1000->(∀k,Cw k->SrC w0 S xv k d)->∀k,Cw k->k.signs=[]->k.base=[64]->∀(s:List UInt8),s.length<=1000000->∀W,Below w0 w0 W->s≠[] ->
 Calls prog 68 #[.agg #[xv],s,.string ⟨(Bj k).toArray⟩,.int .i64 ((d+1:Nat):Int)] W (Bl S k (An S 20 (d+1) k s) W)
theorem Qew(w0:World)(S:List Ty)(hS:∀t∈S,Ep t)(xv:Value)(hxv:xv.oneCell'=true)(HNm:NmC w0 S xv):∀d,d<=1001->∀k,Cw k->SrC w0 S xv k d:=by
 intro d;induction d with
 |zero=>
  intro _ k hk s W hW hs;exact Qbt S xv hxv k dr s W hs
 |succ d ih=>
  intro hd k hk s W hW hs;have ih:=ih aH;have hkl:=hk.2.2;have hp:=(Jl hk).1;obtain⟨h1,h2,h3⟩:=hk;cases hsg:k.signs with
  |cons c sg=>
   rw[hsg]at h1;simp only[List.all_cons,aw,Bo,Bool.or_eq_true,beq_iff_eq]at h1;rcases h1.1 with rfl|rfl
   ·exact Qea w0 S xv hxv k sg hsg aH d aH s W hW hs (ih _ hp) (fun s v r h=>(Fr hS 20 d k.part s v r hp h).2)
   exact Qdu w0 S xv hxv k sg hsg aH d aH s W hW hs (ih _ hp)
  |nil=>
   rcases h2 with⟨hb,hn⟩|⟨hb,_⟩
   ·exact Qeu w0 S xv hxv k hsg hb (by have:=hn;rw[Dk]at this;have:=this.2.1;omega) d aH s W hW hs (fun W' hW' hne=>HNm d aH ih k ⟨h1,.inl ⟨hb,hn⟩,h3⟩ hsg hb s hs W' hW' hne)
   exact Qbd S xv hxv k hsg (by rcases hb with h|h|h<;>simp[h]) d aH s W hs
def Pa(s d x:List UInt8)(w:World)(e:Ending)(w':World):Prop:=Below w w w'/\match Bn s d with
 |none=>∃v q,e=.returned (.tuple #[v,.pointer q,.bool false])
 |some y=>match G7 y.1 y.2 x with
  |none=>∃v q,e=.returned (.tuple #[v,.pointer q,.bool false])
  |some v=>∃xv xs b,e=.returned (.tuple #[xv,.pointer (some ⟨b,0,none⟩),.bool true])/\Af xs=y.1/\Jq w' xv xs/\Fl (fun c=>w.heap.size<=c) w' b (Cq y.1 y.2 v)
theorem Pa.no{s d x:List UInt8}{w w':World}{v:Value}{q:Option Addr}(hb:Below w w w')(h:∀y,Bn s d=some y->G7 y.1 y.2 x=none):Pa s d x w (.returned (.tuple #[v,.pointer q,.bool false])) w':=by
 refine⟨hb,?_⟩;cases hy:Bn s d with
 |none=>exact⟨v,q,rfl⟩
 |some y=>simp only;rw[h y hy];exact⟨v,q,rfl⟩
theorem Qfa(HNm:∀(w0:World) (xs:List (Ty × Value)) (xv:Value),Jq w0 xv xs->Jc (Af xs)->NmC w0 (Af xs) xv)(s d x:List UInt8)(w:World)(hs:s.length<=4000000)(hd:d.length<=4000000)(hx:x.length<=4000000):
  Calls prog 26 #[s,d,x] w (Pa s d x w):=by
 have Hk:=Aa (fun W=>Sd s d W hs hd);go_enter func26,ntmps26;go_wp2_with fail;refine(Hk.o _).mono ?_;rintro e w1 ⟨hm,hb1⟩;have Hb1:=Aa hb1;clear hb1;cases hbo:Bn s d with
 |none=>
  have HB:=Aa hbo;rw[hbo]at hm;obtain⟨A,n,c,rfl⟩:=hm;clear hbo;go_wp2_with fail;refine aF (v:=.tuple #[.slice none 0 0,.pointer none,.bool false]) (by simp[results,results26,go_sem]) rfl ?_;exact Pa.no Hb1.o fun y hy=>by rw[HB.o]at hy;cases hy
 |some y=>
  obtain⟨S,k⟩:=y;have HB:=Aa hbo;rw[hbo]at hm;obtain⟨xv,xs,rfl,hty,hsc⟩:=hm;obtain⟨g1,_,_,g4,g5,_⟩:=Du hbo;obtain⟨A9,c9,rfl,hl9,_⟩:=hsc;have Hsc:=@Aa (Jq w1 (.slice A9 xs.length c9) xs) ⟨A9,c9,rfl,hl9,by assumption⟩;clear hbo;by_cases h400:400<x.length
  ·have t4:decide ((400:Int)<(x.length:Int))=true:=aD aH;have t5:(400:Int)<(x.length:Int):=aH;have HV:=@Aa (G7 S k x=none) (by unfold G7;rw[if_pos h400]);clear h400 g1 g4 g5;go_wp2_with fail;refine aF (v:=.tuple #[.slice none 0 0,.pointer none,.bool false]) (by simp[results,results26,go_sem]) rfl ?_;exact Pa.no Hb1.o fun y hy=>cY
  have t5:¬((400:Int)<(x.length:Int)):=aH;have hr:Calls prog 43 #[.agg #[.slice A9 xs.length c9],x,.string ⟨(Bj k).toArray⟩,.int .i64 ((12:Nat):Int)] w1 (Bl S k (An S 20 12 k x) w1):=by
   have:=Qew w1 (Af xs) (by rw[hty];exact g1.1.1) (.slice A9 xs.length c9) rfl (HNm w1 xs _ Hsc.o (by rw[hty];exact g1)) 12 aH k g4 x w1 (Aq _ _) aH;rw[hty]at this;exact this
  rw[g5,show (((12:Nat)):Int)=12 from rfl]at hr;have HR:=Aa hr;have HV:=@Aa (G7 S k x=match An S 20 12 k x with|some (v,[])=>some v|_=>none) (by unfold G7;rw[if_neg h400];rfl);have Hty:=Aa hty;generalize An S 20 12 k x=o at *;clear h400 g1 g4 g5 hr hty;go_wp2_with fail;refine HR.o.mono ?_;rintro e w5 hp;obtain⟨vp,vr,vk,rfl,hb5,hm⟩:=hp.q;have Hb5:=Aa (Hb1.o.trans (hb5.mono Hb1.o.size));have Hsc5:=Aa (Hsc.o.below hb5);have hz:=Hb1.o.size;clear hb5 hp;cases o with
  |none=>
   obtain⟨⟨q0,rfl⟩,⟨r0,rfl⟩,rfl⟩:=hm;go_wp2_with fail;refine aF (v:=.tuple #[.slice A9 xs.length c9,.pointer q0,.bool false]) (by simp[results,results26,go_sem]) rfl ?_;exact Pa.no Hb5.o fun y hy=>cY
  |some y=>
   obtain⟨v,r⟩:=y;obtain⟨⟨b,rfl,hsv⟩,rfl,rfl⟩:=hm;have Hsv:=Aa hsv;clear hsv;cases r with
   |nil=>
    go_wp2_with fail;refine aF (v:=.tuple #[.slice A9 xs.length c9,b,.bool true]) (by simp[results,results26,go_sem]) rfl ?_;refine⟨Hb5.o,?_⟩;rw[HB.o];simp only;rw[HV.o];exact⟨_,xs,b,rfl,Hty.o,Hsc5.o,Hsv.o.mono fun c1 hc _=>ad hz hc⟩
   |cons c z=>
    go_wp2_with fail;refine aF (v:=.tuple #[.slice A9 xs.length c9,b,.bool false]) (by simp[results,results26,go_sem]) rfl ?_;exact Pa.no Hb5.o fun y hy=>cY
def Mf(o:Option (Fd × List UInt8))(s:List UInt8)(w:World)(e:Ending)(w':World):Prop:=
 ∃(n:Nat) (a b c r:List UInt8),e=.returned (.tuple #[.agg #[(n:Int),a,b,c],r,.bool o.isSome])/\Below w w w'/\r.length<=s.length/\n<=1000000000 /\
  ∀f q,o=some (f,q)->n=f.tag/\a=f.name/\b=Bj f.kind/\c=f.given/\r=q
theorem Qhp(fs:List Fd)(s:List UInt8):Fq fs s=if Dp (s.takeWhile Bh) 200 then(match Cn (s.takeWhile Bh)with|some n=>(Au fs n).map (fun f=>(f,s.dropWhile Bh))|none=>none)else none:=by
 unfold Fq Qg Dp;cases h:Cn (s.takeWhile Bh)with
 |none=>rfl
 |some n=>
  simp only;by_cases hn:n<=200
  ·simp only[hn,if_true,decide_true];cases Au fs n<;>rfl
  simp[hn]
theorem Vw(xv st nm fv:Value)(hxv:xv.oneCell'=true)(hst:st.oneCell'=true)(hnm:nm.oneCell'=true)(fs:List Fd)(s:List UInt8)(w:World)(h:Er w fv fs)(htg:∀f∈fs,f.tag<=200)(hs:s.length<=4000000):
  Calls prog 92 #[.agg #[xv],s,.agg #[st,nm,fv]] w (Mf (Fq fs s) s w):=by
 obtain⟨A9,c9,rfl,hl9,hr9⟩:=h;have Hfs:=@Aa (Er w (.slice A9 fs.length c9) fs) ⟨A9,c9,rfl,hl9,hr9⟩;have HQ:=Aa (Qhp fs s);obtain⟨e1,e2,hle⟩:=Qx Bh s;have Hd:=Aa (fun W=>Sj s W hs);have Hn:=Aa (fun W=>Dg (s.takeWhile Bh) 200 W aH aK);have E1:=Aa e1;have E2:=Aa e2;have k1:((s.takeWhile Bh).length:Int)<=(s.length:Int):=aH;have Hdl:=Aa (show (s.dropWhile Bh).length<=s.length by rw[<-e2];simp);generalize (s.takeWhile Bh).length=n at *;generalize s.takeWhile Bh=tw at *;generalize s.dropWhile Bh=dw at *;have k2:(0:Int)<=(n:Int):=aH;have k3:((n:Int)).toNat=n:=aH;have hn8:n<=4000000:=aH;have Htg:=Aa htg;clear e1 e2 hr9 htg;go_enter func92,ntmps92;go_wp2_with fail;refine(Hd.o _).mono ?_;rintro e w1 ⟨rfl,rfl⟩;go_wp2_with fail;rw[E1.o];refine(Hn.o _).mono ?_;rintro e w2 ⟨m,hm,rfl,hdm,hb2⟩;have Hdm:=Aa hdm;have Hb2:=Aa ((((Aq w.heap.size w).alloc (Ap _) (.cells #[xv] 92)).alloc aL (.cells #[st,nm,.slice A9 fs.length c9] 100)).alloc aM (.cells #[.int .i64 0,a8,a8,a8] 104) |>.trans (hb2.mono aM));obtain⟨hc2,hfz2,hzz2⟩:=By hb2;have hz2:=hb2.size;simp only[World.size_alloc]at hz2;have Hf2:=Aa (fun W (hW:Below w w W)=>Qd st nm (.slice A9 fs.length c9) fs m W (Hfs.o.below hW) aH);generalize hok0:Dp tw 200=ok at *;have Hok:=Aa hok0;clear hok0;clear hdm hb2;go_wp2_with fail;refine(Hf2.o _ Hb2.o).mono ?_;rintro e w3 ⟨rfl,hb3⟩;have Hb3:=Aa (Hb2.o.trans (hb3.mono Hb2.o.size));obtain⟨hc3,hfz3,hzz3⟩:=By hb3;have hz3:=hb3.size;have hcc:∀b o,b<w.heap.size+3->w3.cell? ⟨b,o,none⟩=w2.cell? ⟨b,o,none⟩:=fun b o h=>hc3 b o aH;clear hb3 Hf2 hzz2 hzz3;obtain⟨n0,a,b,c,is,hsf,hn0,his,hfd⟩:∃(n0:Nat) (a b c:List UInt8) (is:Bool),sfR (Au fs m)=.tuple #[.agg #[(n0:Int),a,.string ⟨b.toArray⟩,c],.bool is]/\n0<=1000000000/\(Au fs m).isSome=is/\∀f,Au fs m=some f->n0=f.tag/\a=f.name/\b=Bj f.kind/\c=f.given:=by
  cases hf:Au fs m with
  |none=>exact⟨0,[],[],[],false,rfl,by omega,rfl,fun f h=>by cases h⟩
  |some f=>exact⟨f.tag,f.name,Bj f.kind,f.given,true,rfl,by have:=Htg.o f (List.mem_of_find?_eq_some hf);omega,rfl,fun g h=>by injection h with h;subst h;exact⟨rfl,rfl,rfl,rfl⟩⟩
 rw[hsf];have Hfd:=Aa (And.intro his hfd);clear hsf his hfd;go_wp2_with fail;have F0:w3.cell? (w.heap.size+1+1,0)=some (.int .i64 0):=gQ;have F1:w3.cell? (w.heap.size+1+1,1)=a8:=gQ;have F2:w3.cell? (w.heap.size+1+1,2)=a8:=gQ;have F3:w3.cell? (w.heap.size+1+1,3)=a8:=gQ;have Z0:w3.frozen? (w.heap.size+1+1,0)=false:=gL;have Z1:w3.frozen? (w.heap.size+1+1,1)=false:=gL;have Z2:w3.frozen? (w.heap.size+1+1,2)=false:=gL;have Z3:w3.frozen? (w.heap.size+1+1,3)=false:=gL;have hb6:w.heap.size+1+1<w3.heap.size:=aH;clear hc2 hfz2 hc3 hfz3 hcc;cases ok with
 |true=>
  refine Ge [29,30,31,32,33,34,35,36,999,7,8]
   (fun ix v W=>match ix with|0=>v=.agg #[(n0:Int),a,.string ⟨b.toArray⟩,c]|1=>v=(s:List UInt8)|2=>v=(n:Int)|3=>v=(dw:List UInt8)|4=>v=.bool true|5=>v=.bool true|6=>v=.bool is|7=>v=.bool is|9=>v=(dw:List UInt8)|10=>v=.bool is|_=>True)
   (fun L U W=>(L 8=false->W=(w3.alloc (.cells #[(n0:Int),a,.string ⟨b.toArray⟩,c] 104)).drew)/\(L 8=true->Below w w W/\W.cell? (w.heap.size+1+1,0)=(n0:Int)/\W.cell? (w.heap.size+1+1,1)=a/\W.cell? (w.heap.size+1+1,2)=some (.string ⟨b.toArray⟩)/\W.cell? (w.heap.size+1+1,3)=c)) (⟨fun _=>rfl,fun h=>Bool.noConfusion h⟩) ?_ ?_
  ·exact ic
  rintro L U W hL hφ hR;have e9:U 9=(dw:List UInt8):=hφ 9 aK;have e10:U 10=.bool is:=hφ 10 aK;clear hφ;obtain⟨Hbw,c0,c1,c2,c3⟩:=hR.2 (hL 8 aK);have HBW:=Aa Hbw;clear hL hR Hbw;simp only[e9,e10];go_wp2_with fail;refine aF (v:=.tuple #[.agg #[(n0:Int),a,.string ⟨b.toArray⟩,c],dw,.bool is]) (by simp[results,results92,go_sem,c0,c1,c2,c3]) rfl ?_;obtain⟨his,hfd⟩:=Hfd.o;have HQ:=HQ.o;have hok:=Hok.o;cases hdm:Cn tw with
  |none=>rw[Mr hdm]at hok;cases hok
  |some m'=>
   rw[hdm]at HQ;simp only[if_true]at HQ;have hm':=Hdm.o m' hdm;subst hm';rw[HQ];refine⟨n0,a,b,c,dw,by rw[Option.isSome_map,his],HBW.o,Hdl.o,hn0,fun f q h=>?_⟩;cases hf:Au fs m' with
   |none=>rw[hf]at h;cases h
   |some g=>
    rw[hf]at h;injection h with h;injection h with h1 h2;subst h1 h2;obtain⟨q1,q2,q3,q4⟩:=hfd g hf;exact⟨q1,q2,q3,q4,rfl⟩
 |false=>
  refine Ge [29,30,31,32,33,34,35,36,999,7,8]
   (fun ix v W=>match ix with|0=>v=.agg #[(n0:Int),a,.string ⟨b.toArray⟩,c]|1=>v=(s:List UInt8)|2=>v=(n:Int)|3=>v=(dw:List UInt8)|4=>v=.bool false|5=>v=.bool false|7=>v=.bool false|9=>v=(dw:List UInt8)|10=>v=.bool false|_=>True)
   (fun L U W=>(L 8=false->W=(w3.alloc (.cells #[(n0:Int),a,.string ⟨b.toArray⟩,c] 104)).drew)/\(L 8=true->Below w w W/\W.cell? (w.heap.size+1+1,0)=(n0:Int)/\W.cell? (w.heap.size+1+1,1)=a/\W.cell? (w.heap.size+1+1,2)=some (.string ⟨b.toArray⟩)/\W.cell? (w.heap.size+1+1,3)=c)) (⟨fun _=>rfl,fun h=>Bool.noConfusion h⟩) ?_ ?_
  ·exact ic
  rintro L U W hL hφ hR;have e9:U 9=(dw:List UInt8):=hφ 9 aK;have e10:U 10=.bool false:=hφ 10 aK;clear hφ;obtain⟨Hbw,c0,c1,c2,c3⟩:=hR.2 (hL 8 aK);have HBW:=Aa Hbw;clear hL hR Hbw;simp only[e9,e10];go_wp2_with fail;refine aF (v:=.tuple #[.agg #[(n0:Int),a,.string ⟨b.toArray⟩,c],dw,.bool false]) (by simp[results,results92,go_sem,c0,c1,c2,c3]) rfl ?_;obtain⟨his,hfd⟩:=Hfd.o;have HQ:=HQ.o;have hok:=Hok.o;simp only[ao,if_false]at HQ;rw[HQ];exact⟨n0,a,b,c,dw,rfl,HBW.o,Hdl.o,hn0,fun f q h=>by cases h⟩
end
def enL(o:Option (Fd × List UInt8)):Option (Vl × List UInt8):=match o with|some (f,q)=>some (.mk 69 [] f.tag [],q)|none=>none
def unL(R:Kd->List UInt8->Option (Vl × List UInt8))(o:Option (Fd × List UInt8)):Option (Vl × List UInt8):=match o with
 |none=>none
 |some (f,r)=>match Ar 61 r with
  |none=>none
  |some q=>match R f.kind q with
   |none=>none
   |some (v,q)=>match Ar 62 q with|some z'=>some (.mk 85 [] f.tag [v],z')|none=>none
def StF(o:Option (Fd × List UInt8))(s:List UInt8)(n:Nat)(a b c r:List UInt8):Prop:=
 r.length<=s.length/\n<=1000000000/\∀f q,o=some (f,q)->n=f.tag/\a=f.name/\b=Bj f.kind/\c=f.given/\r=q
theorem Mf.q{o:Option (Fd × List UInt8)}{s:List UInt8}{w w':World}{e:Ending}(h:Mf o s w e w'):∃(n:Nat) (a b c r:List UInt8),e=.returned (.tuple #[.agg #[(n:Int),a,b,c],r,.bool o.isSome])/\StF o s n a b c r/\Below w w w':=by
 obtain⟨n,a,b,c,r,h1,h2,h3,h4,h5⟩:=h;exact⟨n,a,b,c,r,h1,⟨h3,h4,h5⟩,h2⟩
structure Gn(w1:World)(o:Option (Fd × List UInt8))(s:List UInt8)(l m x y z al st p q:Bool)(ul um ux uy uz ual up uq:Value)(W:World):Prop where
 be:Below w1 w1 W
 yes:l=true->∃(n:Nat) (a b c r:List UInt8),StF o s n a b c r/\ul=.tuple #[.agg #[(n:Int),a,b,c],r,.bool o.isSome] /\
  (m=true->um=.tuple #[.agg #[(n:Int),a,b,c],r,.bool o.isSome]) /\
  (x=true->ux=.agg #[(n:Int),a,b,c])/\(y=true->uy=r)/\(z=true->uz=.bool o.isSome)/\(p=true->up=r)/\(q=true->uq=.bool o.isSome)
 al:al=true->∃B,ual=.pointer (some ⟨B,0,none⟩)/\w1.heap.size<=B/\B<W.heap.size/\W.there B 0 4/\(st=true->∃cs:List Value,ux=.agg cs.toArray/\W.rangeAt B 0 cs)
section
variable {w1 W W':World} {o:Option (Fd × List UInt8)} {s:List UInt8} {l m x y z al st p q:Bool} {ul um ux uy uz ual up uq:Value} {n:Nat} {a b c r:List UInt8} {B:Nat}
theorem Gn.start:Gn w1 o s false m x y z false st p q ul um ux uy uz ual up uq w1:=⟨Aq _ _,fun h=>Bool.noConfusion h,fun h=>Bool.noConfusion h⟩
theorem Gn.call(h:Gn w1 o s l m x y z al st p q ul um ux uy uz ual up uq W)(hm:m=false)(hx:x=false)(hy:y=false)(hz:z=false)(hst:st=false)(hp:p=false)(hq:q=false)(hF:StF o s n a b c r)(hb:Below W W W'):
  Gn w1 o s true m x y z al st p q (.tuple #[.agg #[(n:Int),a,b,c],r,.bool o.isSome]) um ux uy uz ual up uq W':=by
 subst hm hx hy hz hst hp hq;refine⟨h.be.trans (hb.mono h.be.size),fun _=>⟨n,a,b,c,r,hF,rfl,fun h=>Bool.noConfusion h,fun h=>Bool.noConfusion h,fun h=>Bool.noConfusion h,fun h=>Bool.noConfusion h,fun h=>Bool.noConfusion h,fun h=>Bool.noConfusion h⟩,fun ha=>?_⟩;obtain⟨B,h1,h2,h3,h4,_⟩:=h.al ha;exact⟨B,h1,h2,ac h3 hb.size,Al h4 h3 hb,fun h=>Bool.noConfusion h⟩
theorem Gn.move(h:Gn w1 o s l m x y z al st p q ul um ux uy uz ual up uq W)(hl:l=true):Gn w1 o s l true x y z al st p q ul ul ux uy uz ual up uq W:=
 ⟨h.be,fun hl=>by obtain⟨n,a,b,c,r,h1,h2,_,h4⟩:=h.yes hl;exact⟨n,a,b,c,r,h1,h2,fun _=>h2,h4⟩,h.al⟩
theorem Gn.get(h:Gn w1 o s l m x y z al st p q ul um ux uy uz ual up uq W)(hl:l=true)(hm:m=true)(hst:x=false->st=false):∃(n:Nat) (a b c r:List UInt8),um=.tuple #[.agg #[(n:Int),a,b,c],r,.bool o.isSome] /\
  (x=false->Gn w1 o s l m true y z al st p q ul um (.agg #[(n:Int),a,b,c]) uy uz ual up uq W)/\Gn w1 o s l m x true z al st p q ul um ux r uz ual up uq W/\Gn w1 o s l m x y true al st p q ul um ux uy (.bool o.isSome) ual up uq W:=by
 obtain⟨n,a,b,c,r,h1,h2,h3,h4,h5,h6,h7⟩:=h.yes hl;refine⟨n,a,b,c,r,h3 hm,fun hx=>⟨h.be,fun _=>⟨n,a,b,c,r,h1,h2,h3,fun _=>rfl,h5,h6,h7⟩,fun ha=>?_⟩,⟨h.be,fun _=>⟨n,a,b,c,r,h1,h2,h3,h4,fun _=>rfl,h6,h7⟩,h.al⟩,⟨h.be,fun _=>⟨n,a,b,c,r,h1,h2,h3,h4,h5,fun _=>rfl,h7⟩,h.al⟩⟩;obtain⟨B,g1,g2,g3,g4,_⟩:=h.al ha;exact⟨B,g1,g2,g3,g4,fun hs=>absurd ((hst hx).symm.trans hs) aK⟩
theorem Gn.as1(h:Gn w1 o s l m x y z al st p q ul um ux uy uz ual up uq W)(hy:y=true):Gn w1 o s l m x y z al st true q ul um ux uy uz ual uy uq W:=
 ⟨h.be,fun hl=>by obtain⟨n,a,b,c,r,h1,h2,h3,h4,h5,h6,_,h7⟩:=h.yes hl;exact⟨n,a,b,c,r,h1,h2,h3,h4,h5,h6,fun _=>h5 hy,h7⟩,h.al⟩
theorem Gn.as2(h:Gn w1 o s l m x y z al st p q ul um ux uy uz ual up uq W)(hz:z=true):Gn w1 o s l m x y z al st p true ul um ux uy uz ual up uz W:=
 ⟨h.be,fun hl=>by obtain⟨n,a,b,c,r,h1,h2,h3,h4,h5,h6,h7,_⟩:=h.yes hl;exact⟨n,a,b,c,r,h1,h2,h3,h4,h5,h6,h7,fun _=>h6 hz⟩,h.al⟩
theorem Gn.alloc(h:Gn w1 o s l m x y z al st p q ul um ux uy uz ual up uq W)(hst:st=false)(T:TypeId):Gn w1 o s l m x y z true st p q ul um ux uy uz W.heap.size up uq (W.alloc (.cells #[.int .i64 0,a8,a8,a8] T)):=
 ⟨h.be.alloc h.be.size _,h.yes,fun _=>⟨_,rfl,h.be.size,by simp,Cc W [.int .i64 0,a8,a8,a8] T,fun h=>absurd (hst.symm.trans h) aK⟩⟩
theorem Gn.store(h:Gn w1 o s l m x y z al st p q ul um ux uy uz ual up uq W)(ha:al=true)(ex:ux=.agg #[(n:Int),a,b,c])(el:ual=B):
  W.there B 0 4/\Gn w1 o s l m x y z al true p q ul um ux uy uz ual up uq (W.setCells B 0 [(n:Int),a,b,c]):=by
 obtain⟨B',g1,g2,g3,g4,_⟩:=h.al ha;rw[el]at g1;injection g1 with g1;injection g1 with g1;injection g1 with g1;subst g1;exact⟨g4,Ag _ g2 _ _ _ h.be,h.yes,fun _=>⟨B,el,g2,by rw[B6];exact g3,ai g4 _ _ _,fun _=>⟨_,ex,aa _ _ _ _ g4⟩⟩⟩
theorem Gn.fin(h:Gn w1 o s l m x y z al st p q ul um ux uy uz ual up uq W)(hl:l=true)(hx:x=true)(ha:al=true)(hs:st=true)(hp:p=true)(hq:q=true):
  ∃(n:Nat) (a b c r:List UInt8) (B:Nat),StF o s n a b c r/\ual=.pointer (some ⟨B,0,none⟩)/\up=.string ⟨r.toArray⟩/\uq=.bool o.isSome/\w1.heap.size<=B/\B<W.heap.size/\W.rangeAt B 0 [.int .i64 (n:Int),.string ⟨a.toArray⟩,.string ⟨b.toArray⟩,.string ⟨c.toArray⟩]/\Below w1.heap.size w1 W:=by
 obtain⟨n,a,b,c,r,h1,h2,h3,h4,h5,h6,h7,h8⟩:=h.yes hl;obtain⟨B,g1,g2,g3,g4,g5⟩:=h.al ha;obtain⟨cs,e1,e2⟩:=g5 hs;have e3:=h4 hx;rw[e1]at e3;injection e3 with e3;have e4:cs=[.int .i64 (n:Int),.string ⟨a.toArray⟩,.string ⟨b.toArray⟩,.string ⟨c.toArray⟩]:=by simpa using e3
 exact⟨n,a,b,c,r,B,h1,g1,h7 hp,h8 hq,g2,g3,e4 ▸ e2,h.be⟩
end
section
variable {Q:World->Value->Value->Value->Prop} {w1 W W':World} {l m x y z a b e:Bool} {ul um ux uy uz ua ub ue vp vr vk:Value}
theorem Gh.call(hm:m=false)(hx:x=false)(hy:y=false)(hz:z=false)(ha:a=false)(hb:b=false)(he:e=false)(h:Q W vp vr vk):Gh Q w1 true m x y z a b e (.tuple #[vp,vr,vk]) um ux uy uz ua ub ue W:=by
 subst hm hx hy hz ha hb he;exact⟨fun h=>Bool.noConfusion h,fun _=>⟨vp,vr,vk,h,rfl,fun h=>Bool.noConfusion h,fun h=>Bool.noConfusion h,fun h=>Bool.noConfusion h,fun h=>Bool.noConfusion h,fun h=>Bool.noConfusion h,fun h=>Bool.noConfusion h,fun h=>Bool.noConfusion h⟩⟩
theorem Gh.call2(hx:x=false)(hy:y=false)(hz:z=false)(ha:a=false)(hb:b=false)(he:e=false)(h:Q W vp vr vk):Gh Q w1 true true x y z a b e (.tuple #[vp,vr,vk]) (.tuple #[vp,vr,vk]) ux uy uz ua ub ue W:=by
 subst hx hy hz ha hb he;exact⟨fun h=>Bool.noConfusion h,fun _=>⟨vp,vr,vk,h,rfl,fun _=>rfl,fun h=>Bool.noConfusion h,fun h=>Bool.noConfusion h,fun h=>Bool.noConfusion h,fun h=>Bool.noConfusion h,fun h=>Bool.noConfusion h,fun h=>Bool.noConfusion h⟩⟩
theorem Gh.move(h:Gh Q w1 l m x y z a b e ul um ux uy uz ua ub ue W)(hl:l=true):Gh Q w1 l true x y z a b e ul ul ux uy uz ua ub ue W:=
 ⟨h.no,fun hl=>by obtain⟨p,r,k,h1,h2,_,h3⟩:=h.yes hl;exact⟨p,r,k,h1,h2,fun _=>h2,h3⟩⟩
theorem Gh.get(h:Gh Q w1 l m x y z a b e ul um ux uy uz ua ub ue W)(hl:l=true)(hm:m=true):∃vp vr vk,um=.tuple #[vp,vr,vk]/\Gh Q w1 l m true y z a b e ul um vp uy uz ua ub ue W/\Gh Q w1 l m x true z a b e ul um ux vr uz ua ub ue W/\Gh Q w1 l m x y true a b e ul um ux uy vk ua ub ue W:=by
 obtain⟨p,r,k,h1,h2,h3,h4,h5,h6,h7⟩:=h.yes hl;exact⟨p,r,k,h3 hm,⟨h.no,fun _=>⟨p,r,k,h1,h2,h3,fun _=>rfl,h5,h6,h7⟩⟩,⟨h.no,fun _=>⟨p,r,k,h1,h2,h3,h4,fun _=>rfl,h6,h7⟩⟩,⟨h.no,fun _=>⟨p,r,k,h1,h2,h3,h4,h5,fun _=>rfl,h7⟩⟩⟩
theorem Gh.as0(h:Gh Q w1 l m x y z a b e ul um ux uy uz ua ub ue W)(hx:x=true):Gh Q w1 l m x y z true b e ul um ux uy uz ux ub ue W:=
 ⟨h.no,fun hl=>by obtain⟨p,r,k,h1,h2,h3,h4,h5,h6,_,h8,h9⟩:=h.yes hl;exact⟨p,r,k,h1,h2,h3,h4,h5,h6,fun _=>h4 hx,h8,h9⟩⟩
theorem Gh.as1(h:Gh Q w1 l m x y z a b e ul um ux uy uz ua ub ue W)(hy:y=true):Gh Q w1 l m x y z a true e ul um ux uy uz ua uy ue W:=
 ⟨h.no,fun hl=>by obtain⟨p,r,k,h1,h2,h3,h4,h5,h6,h7,_,h9⟩:=h.yes hl;exact⟨p,r,k,h1,h2,h3,h4,h5,h6,h7,fun _=>h5 hy,h9⟩⟩
theorem Gh.as2(h:Gh Q w1 l m x y z a b e ul um ux uy uz ua ub ue W)(hz:z=true):Gh Q w1 l m x y z a b true ul um ux uy uz ua ub uz W:=
 ⟨h.no,fun hl=>by obtain⟨p,r,k,h1,h2,h3,h4,h5,h6,h7,h8,_⟩:=h.yes hl;exact⟨p,r,k,h1,h2,h3,h4,h5,h6,h7,h8,fun _=>h6 hz⟩⟩
theorem Gh.fin(h:Gh Q w1 l m x y z a b e ul um ux uy uz ua ub ue W)(hl:l=true)(ha:a=true)(hb:b=true)(he:e=true):∃vp vr vk,Q W vp vr vk/\ua=vp/\ub=vr/\ue=vk:=by
 obtain⟨p,r,k,h1,_,_,_,_,_,h7,h8,h9⟩:=h.yes hl;exact⟨p,r,k,h1,h7 ha,h8 hb,h9 he⟩
end
structure Fh(w1:World)(kb:List UInt8)(n x:Nat)(l3 l5 l6 l7 l10:Bool)(u3 u5 u6 u7 u10:Value)(W:World):Prop where
 be:Below w1 w1 W
 a3:l3=true->∃B,u3=.slice (some ⟨B,0,none⟩) 1 1/\w1.heap.size<=B/\B<W.heap.size/\W.cell? ⟨B,0,none⟩=(n:Int)
 a5:l5=true->∃B,u5=.slice (some ⟨B,0,none⟩) 1 1/\w1.heap.size<=B/\B<W.heap.size/\W.cell? ⟨B,0,none⟩=x
 a6:l6=true->l3=true/\l5=true/\u6=.agg #[kb,.string ⟨#[85]⟩,u3,u5]
 a7:l7=true->l3=true/\l5=true/\∃B,u7=.pointer (some ⟨B,0,none⟩)/\w1.heap.size<=B/\B<W.heap.size/\W.cell? ⟨B,0,none⟩=kb/\W.cell? ⟨B,1,none⟩=some (.string ⟨#[85]⟩)/\W.cell? ⟨B,2,none⟩=some u3/\W.cell? ⟨B,3,none⟩=some u5
 a10:l10=true->u10=u7
section
variable {w1 W:World} {kb:List UInt8} {n x:Nat} {l3 l5 l6 l7 l10:Bool} {u3 u5 u6 u7 u10:Value}
theorem Ez{w:World}{b o:Nat}{v:Value}{B:Obj}(hb:b<w.heap.size)(h:w.cell? ⟨b,o,none⟩=some v):(w.alloc B).cell? ⟨b,o,none⟩=some v:=
 ((Aq w.heap.size w).alloc (Ap _) B |>.cell (p:=⟨b,o,none⟩) hb).trans h
theorem Fh.start:Fh w1 kb n x false false false false false u3 u5 u6 u7 u10 w1:=
 ⟨Aq _ _,fun h=>Bool.noConfusion h,fun h=>Bool.noConfusion h,fun h=>Bool.noConfusion h,fun h=>Bool.noConfusion h,fun h=>Bool.noConfusion h⟩
theorem Fh.grow(h:Fh w1 kb n x l3 l5 l6 l7 l10 u3 u5 u6 u7 u10 W)(B:Obj):Fh w1 kb n x l3 l5 l6 l7 l10 u3 u5 u6 u7 u10 (W.alloc B):=by
 refine⟨h.be.alloc h.be.size _,fun q=>?_,fun q=>?_,h.a6,fun q=>?_,h.a10⟩
 ·obtain⟨b,e,h1,h2,h3⟩:=h.a3 q;exact⟨b,e,h1,by simp;omega,Ez h2 h3⟩
 ·obtain⟨b,e,h1,h2,h3⟩:=h.a5 q;exact⟨b,e,h1,by simp;omega,Ez h2 h3⟩
 obtain⟨q3,q5,b,e,h1,h2,c0,c1,c2,c3⟩:=h.a7 q;exact⟨q3,q5,b,e,h1,by simp;omega,Ez h2 c0,Ez h2 c1,Ez h2 c2,Ez h2 c3⟩
theorem Fh.put3(h:Fh w1 kb n x l3 l5 l6 l7 l10 u3 u5 u6 u7 u10 W)(h6:l6=false)(h7:l7=false)(T:TypeId):Fh w1 kb n x true l5 l6 l7 l10 (.slice (W,0) 1 1) u5 u6 u7 u10 (W.alloc (.cells #[(n:Int)] T)):=by
 have g:=h.grow (.cells #[(n:Int)] T);exact⟨g.be,fun _=>⟨_,rfl,h.be.size,by simp,by simp[go_sem]⟩,g.a5,fun q=>absurd (h6.symm.trans q) aK,fun q=>absurd (h7.symm.trans q) aK,g.a10⟩
theorem Fh.put5(h:Fh w1 kb n x l3 l5 l6 l7 l10 u3 u5 u6 u7 u10 W)(h6:l6=false)(h7:l7=false)(T:TypeId):Fh w1 kb n x l3 true l6 l7 l10 u3 (.slice (W,0) 1 1) u6 u7 u10 (W.alloc (.cells #[x] T)):=by
 have g:=h.grow (.cells #[x] T);exact⟨g.be,g.a3,fun _=>⟨_,rfl,h.be.size,by simp,by simp[go_sem]⟩,fun q=>absurd (h6.symm.trans q) aK,fun q=>absurd (h7.symm.trans q) aK,g.a10⟩
theorem Fh.put6(h:Fh w1 kb n x l3 l5 l6 l7 l10 u3 u5 u6 u7 u10 W)(h3:l3=true)(h5:l5=true){u:Value}(hu:u=.agg #[kb,.string ⟨#[85]⟩,u3,u5]):Fh w1 kb n x l3 l5 true l7 l10 u3 u5 u u7 u10 W:=
 ⟨h.be,h.a3,h.a5,fun _=>⟨h3,h5,hu⟩,h.a7,h.a10⟩
theorem Fh.put7(h:Fh w1 kb n x l3 l5 l6 l7 l10 u3 u5 u6 u7 u10 W)(h6:l6=true)(h10:l10=false){T:TypeId}{W':World}(hW:W'=W.alloc (.cells #[kb,.string ⟨#[85]⟩,u3,u5] T)):Fh w1 kb n x l3 l5 l6 true l10 u3 u5 u6 W.heap.size u10 W':=by
 subst hW;have g:=h.grow (.cells #[kb,.string ⟨#[85]⟩,u3,u5] T);obtain⟨h3,h5,_⟩:=h.a6 h6;exact⟨g.be,g.a3,g.a5,g.a6,fun _=>⟨h3,h5,_,rfl,h.be.size,by simp,by simp[go_sem],by simp[go_sem],by simp[go_sem],by simp[go_sem]⟩,fun q=>absurd (h10.symm.trans q) aK⟩
theorem Fh.put10(h:Fh w1 kb n x l3 l5 l6 l7 l10 u3 u5 u6 u7 u10 W):Fh w1 kb n x l3 l5 l6 l7 true u3 u5 u6 u7 u7 W:=⟨h.be,h.a3,h.a5,h.a6,h.a7,fun _=>rfl⟩
theorem Fh.fin(h:Fh w1 kb n x l3 l5 l6 l7 l10 u3 u5 u6 u7 u10 W)(h7:l7=true)(h10:l10=true){lo:Nat}(hlo:lo<=w1.heap.size){y:SV}(hy:Fl (fun c=>lo<=c) w1 x y):∃B,u10=.pointer (some ⟨B,0,none⟩)/\Fl (fun c=>lo<=c) W B (.mk kb [85] [n] [y]):=by
 obtain⟨h3,h5,B,e,h1,h2,c0,c1,c2,c3⟩:=h.a7 h7;obtain⟨B3,e3,p1,p2,p3⟩:=h.a3 h3;obtain⟨B5,e5,r1,r2,r3⟩:=h.a5 h5;refine⟨B,(h.a10 h10).trans e,?_⟩;rw[e3]at c2;rw[e5]at c3;refine .mk kb [85] [n] (B3,0) (B5,0) 1 1 [(x,y)] rfl h2 (ad hlo h1) c0 c1 c2 c3 ⟨rfl,by simp[maxLen],fun _=>⟨B3,0,rfl,p2,fun j u hu=>?_⟩⟩ ⟨rfl,by simp[maxLen],fun _=>⟨B5,0,rfl,r2,fun j u hu=>?_⟩⟩ aL aL (fun g o _ e=>?_) (fun g o _ e=>?_) (fun p hp=>?_)
 ·match j,hu with
  |0,hu=>simp[Ec]at hu;subst hu;simpa using p3
  |j+1,hu=>simp[Ec]at hu
 ·match j,hu with
  |0,hu=>simp[Do]at hu;subst hu;simpa using r3
  |j+1,hu=>simp[Do]at hu
 ·injection e with e;injection e with e;subst e;omega
 ·injection e with e;injection e with e;subst e;omega
 simp at hp;subst hp;exact hy.after h.be
end
section
attribute [local go_sem] Qiz Qii Qib Qgw ByteArray.mk_append_mk
theorem Qin(w0:World)(xs:List (Ty × Value))(xv:Value)(hxv:xv.oneCell'=true)(hsc:Jq w0 xv xs)(k:Kd)(hk:Cw k)(hsg:k.signs=[])(hbs:k.base=[64])(nm:List UInt8)(fs:List Fd)(tv:Value)(hx:Dq xs k.name=some (⟨69,nm,fs⟩,tv))(hfs:Er w0 tv fs)(htg:∀f∈fs,f.tag<=200)
  (d:Nat) (hd:d<=1000) (z:List UInt8) (w:World) (hw:Below w0 w0 w) (hz:z.length<=1000000) (o:Option (Fd × List UInt8)) (ho:o=Fq fs z):
  Calls prog 68 #[.agg #[xv],(35::z:List UInt8),.string ⟨(Bj k).toArray⟩,.int .i64 ((d+1:Nat):Int)] w (Bl (Af xs) k (enL o) w):=by
 have hkd:∀g,Cq (Af xs) k (.mk 69 [] g [])=.mk (Bj k) [69] [g] []:=Rh (Af xs) k;generalize (((d+1:Nat):Int))=dd at *;obtain⟨A9,c9,rfl,hl9,_⟩:=hfs;have HFs:=@Aa (∀W,Below w0 w0 W->Er W (.slice A9 fs.length c9) fs) (fun W hW=>Er.below (show Er w0 (.slice A9 fs.length c9) fs from⟨A9,c9,rfl,hl9,by assumption⟩) hW)
 have Hr:=Aa (show ∀W,Below w0 w0 W->Calls prog 44 #[xv,.string ⟨(Bj k).toArray⟩] W fun e w'=>e=.returned (.tuple #[.agg #[.int .u8 69,nm,.slice A9 fs.length c9],.bool true])/\Below W W w' from fun W hW=>by
  have h:=Fu xv xs k W (hsc.below hW) hk;rw[show Kz xs k=some (⟨69,nm,fs⟩,.slice A9 fs.length c9)from by unfold Kz;rw[if_pos ⟨hsg,hbs⟩];exact hx]at h;exact h)
 have HT:=@Aa (∀W,Below w0 w0 W->Calls prog 92 #[.agg #[xv],z,.agg #[.int .u8 69,nm,.slice A9 fs.length c9]] W (Mf (Fq fs z) z W)) (fun W hW=>Vw xv (.int .u8 69) nm _ hxv rfl rfl fs z W (HFs.o W hW) htg aH);have hkl:(Bj k).length<=100:=dr;have hzl:z.length<=1000000:=hz;have Ho:=Aa ho;rw[<-ho]at HT;have Hw:=Aa hw;have Hkd:=Aa hkd;generalize Bj k=kb at *;clear hw hx hsc htg ho;go_enter func68,ntmps68;go_wp2_with fail;refine(Hr.o _ (Hw.o.alloc Hw.o.size _)).mono ?_;rintro e w1 ⟨rfl,hb1⟩;have hz1:=hb1.size;simp only[World.size_alloc]at hz1;have Hb1:=Aa (((Aq w.heap.size w).alloc (Ap _) _).trans (hb1.mono aL));have X0:=@Aa (w1.cell? (w,0)=some xv) ew;clear hb1;go_upto_region 5 with fail
 obtain⟨w2,hw2⟩:∃w2,w2=w1.alloc (.cells #[.int .u8 69,nm,.slice A9 fs.length c9] 100):=⟨_,rfl⟩
 have Hb2:=@Aa (Below w w w2) ef;have Hl0:=@Aa (w.heap.size<w2.drew.heap.size) gg;have Hl1:=@Aa (w1.heap.size<w2.drew.heap.size) (by rw[hw2];simp);have X0:=@Aa (w2.drew.cell? (w,0)=some xv) eF;have X1:=@Aa (w2.drew.cell? (w1,0)=some (.int .u8 69)) cN;have X2:=@Aa (w2.drew.cell? (w1,1)=nm) cN;have X3:=@Aa (w2.drew.cell? (w1,2)=some (.slice A9 fs.length c9)) cN;have HC:=@Aa (∀W,Below w2.drew.heap.size w2.drew W->Calls prog 92 #[.agg #[xv],z,.agg #[.int .u8 69,nm,.slice A9 fs.length c9]] W (Mf o z W)) (fun W hW=>HT.o W ((Hw.o.trans (Hb2.o.mono Hw.o.size)).trans ((Aq _ _).drew.trans (hW.mono aL) |>.mono (ad Hw.o.size Hb2.o.size))));rw[<-hw2];clear hw2;refine Ge [58,59,60,61,62,57,63,64,65,13,999,14,15]
  (fun ix v W=>match ix with|0=>v=.agg #[xv]|1=>v=(35::z:List UInt8)|2=>v=(z:List UInt8)|3=>v=.agg #[.int .u8 69,nm,.slice A9 fs.length c9]|_=>True)
  (fun L U W=>Gn w2.drew o z (L 4) (L 5) (L 6) (L 7) (L 8) (L 9) (L 10) (L 11) (L 12) (U 4) (U 5) (U 6) (U 7) (U 8) (U 9) (U 11) (U 12) W) (Gn.start) ?_ ?_
 ·exact hM
 rintro L U W hL hφ hR;clear hφ;obtain⟨n,a,b,c,r,B,hF,u9,u11,u12,hB1,hB2,hrg,hbe⟩:=hR.fin (hL 4 aK) (hL 6 aK) (hL 9 aK) (hL 10 aK) (hL 11 aK) (hL 12 aK);simp only[u9,u11,u12];clear hR hL u9 u11 u12;have y0:W.cell? (B,0)=(n:Int):=fC;have HF:=Aa hF;have HB:=@Aa (Below w w W) (Hb2.o.trans (((Aq _ _).drew.trans (hbe.mono aL)).mono Hb2.o.size));clear hbe hrg hF;go_wp2_with fail;refine aF (v:=.tuple #[.pointer (some ⟨W.heap.size+1,0,none⟩),r,.bool o.isSome]) (by simp[results,results68,go_sem]) rfl ?_;have hbf:=(HB.o.alloc HB.o.size (.cells #[(n:Int)] 3)).alloc (by simp;have:=HB.o.size;omega) (.cells #[kb,.string ⟨#[69]⟩,.slice (some ⟨W.heap.size,0,none⟩) 1 1,.slice none 0 0] 97);cases o with
 |none=>exact Bl.no rfl rfl hbf
 |some y=>
  obtain⟨f,q⟩:=y;obtain⟨rfl,_,_,_,rfl⟩:=HF.o.2.2 f q rfl;refine⟨⟨W.heap.size+1,rfl,?_⟩,hbf⟩;have hsz:=HB.o.size;rw[Hkd.o];refine .mk kb [69] [f.tag] (some ⟨W.heap.size,0,none⟩) none 1 0 [] rfl aL (by show w.heap.size<=W.heap.size+1;omega) (by go_simp) (by go_simp) (by go_simp) (by go_simp) ⟨rfl,by simp[maxLen],fun _=>⟨W.heap.size,0,rfl,by simp;omega,fun j u hu=>?_⟩⟩ ⟨rfl,ag _,fun h=>absurd h aL⟩ aL aL (fun g o _ e=>?_) (fun _ _ h=>absurd h aL) (fun x hx=>?_)
  ·match j,hu with
   |0,hu=>
    simp[Ec]at hu;subst hu;go_simp
   |j+1,hu=>simp[Ec]at hu
  ·injection e with e;injection e with e;subst e;exact hsz
  simp at hx
theorem Qip(w0:World)(xs:List (Ty × Value))(xv:Value)(hxv:xv.oneCell'=true)(hsc:Jq w0 xv xs)(k:Kd)(hk:Cw k)(hsg:k.signs=[])(hbs:k.base=[64])(nm:List UInt8)(fs:List Fd)(tv:Value)(hx:Dq xs k.name=some (⟨85,nm,fs⟩,tv))(hfs:Er w0 tv fs)(htg:∀f∈fs,f.tag<=200)
  (d:Nat) (hd:d<=1000) (z:List UInt8) (w:World) (hw:Below w0 w0 w) (hz:z.length<=1000000) (o:Option (Fd × List UInt8)) (ho:o=Fq fs z) (H:∀k',Cw k'->SrC w0 (Af xs) xv k' d) (hfd:∀f∈fs,Cw f.kind) (htf:Bp (Af xs) k.name=some ⟨85,nm,fs⟩)
  (R:Kd->List UInt8->Option (Vl × List UInt8)) (hR0:R=An (Af xs) 20 d):
  Calls prog 68 #[.agg #[xv],(60::z:List UInt8),.string ⟨(Bj k).toArray⟩,.int .i64 ((d+1:Nat):Int)] w (Bl (Af xs) k (unL R o) w):=by
 have hkd:∀f v,Au fs f.tag=some f->Cq (Af xs) k (.mk 85 [] f.tag [v])=.mk (Bj k) [85] [f.tag] [Cq (Af xs) f.kind v]:=fun f v hf=>by rw[Qw,Fs htf hf]
 have HRd:=@Aa (∀k',Cw k'->∀(s:List UInt8) (W:World),Below w0 w0 W->s.length<=1000000->Calls prog 43 #[.agg #[xv],s,.string ⟨(Bj k').toArray⟩,(d:Int)] W (Bl (Af xs) k' (R k' s) W)) (fun k' hk' s W hW hs=>by rw[hR0];exact H k' hk' s W hW hs)
 have HFd:=Aa (show ∀f r,o=some (f,r)->Cw f.kind/\(Bj f.kind).length<=100/\Au fs f.tag=some f from fun f r h=>by
  obtain⟨_,h2,_⟩:=H4 (ho ▸ h);have:=hfd f (Qs h2).1;exact⟨this,by have:=this.2.2;omega,h2⟩)
 clear H hR0 hfd htf;have d1:(((d+1:Nat):Int)) - 1=(d:Int):=aH;have d4:(0:Int)<=(d:Int):=aH;have d5:(d:Int)<=1000:=aH;have hwd:IntKind.i64.wrap (d:Int)=(d:Int):=IntWalk.i64_in _ aH;generalize (((d+1:Nat):Int))=dd at *;obtain⟨A9,c9,rfl,hl9,_⟩:=hfs;have HFs:=@Aa (∀W,Below w0 w0 W->Er W (.slice A9 fs.length c9) fs) (fun W hW=>Er.below (show Er w0 (.slice A9 fs.length c9) fs from⟨A9,c9,rfl,hl9,by assumption⟩) hW)
 have Hr:=Aa (show ∀W,Below w0 w0 W->Calls prog 44 #[xv,.string ⟨(Bj k).toArray⟩] W fun e w'=>e=.returned (.tuple #[.agg #[.int .u8 85,nm,.slice A9 fs.length c9],.bool true])/\Below W W w' from fun W hW=>by
  have h:=Fu xv xs k W (hsc.below hW) hk;rw[show Kz xs k=some (⟨85,nm,fs⟩,.slice A9 fs.length c9)from by unfold Kz;rw[if_pos ⟨hsg,hbs⟩];exact hx]at h;exact h)
 have HT:=@Aa (∀W,Below w0 w0 W->Calls prog 92 #[.agg #[xv],z,.agg #[.int .u8 85,nm,.slice A9 fs.length c9]] W (Mf (Fq fs z) z W)) (fun W hW=>Vw xv (.int .u8 85) nm _ hxv rfl rfl fs z W (HFs.o W hW) htg aH);have hkl:(Bj k).length<=100:=dr;have hzl:z.length<=1000000:=hz;have Ho:=Aa ho;rw[<-ho]at HT;have Hw:=Aa hw;have Hkd:=Aa hkd;generalize Bj k=kb at *;clear hw hx hsc htg ho;go_enter func68,ntmps68;go_wp2_with fail;refine(Hr.o _ (Hw.o.alloc Hw.o.size _)).mono ?_;rintro e w1 ⟨rfl,hb1⟩;have hz1:=hb1.size;simp only[World.size_alloc]at hz1;have Hb1:=Aa (((Aq w.heap.size w).alloc (Ap _) _).trans (hb1.mono aL));have X0:=@Aa (w1.cell? (w,0)=some xv) ew;clear hb1;go_upto_region 8 with fail
 obtain⟨w2,hw2⟩:∃w2,w2=w1.alloc (.cells #[.int .u8 85,nm,.slice A9 fs.length c9] 100):=⟨_,rfl⟩
 have Hb2:=@Aa (Below w w w2) ef;have Hl0:=@Aa (w.heap.size<w2.drew.heap.size) gg;have Hl1:=@Aa (w1.heap.size<w2.drew.heap.size) (by rw[hw2];simp);have X0:=@Aa (w2.drew.cell? (w,0)=some xv) eF;have X1:=@Aa (w2.drew.cell? (w1,0)=some (.int .u8 85)) cN;have X2:=@Aa (w2.drew.cell? (w1,1)=nm) cN;have X3:=@Aa (w2.drew.cell? (w1,2)=some (.slice A9 fs.length c9)) cN;have HC:=@Aa (∀W,Below w2.drew.heap.size w2.drew W->Calls prog 92 #[.agg #[xv],z,.agg #[.int .u8 85,nm,.slice A9 fs.length c9]] W (Mf o z W)) (fun W hW=>HT.o W ((Hw.o.trans (Hb2.o.mono Hw.o.size)).trans ((Aq _ _).drew.trans (hW.mono aL) |>.mono (ad Hw.o.size Hb2.o.size))));rw[<-hw2];clear hw2;refine Ge [84,85,86,87,88,83,89,90,91,16,999,17,18]
  (fun ix v W=>match ix with|0=>v=.agg #[xv]|1=>v=(60::z:List UInt8)|2=>v=(z:List UInt8)|3=>v=.agg #[.int .u8 85,nm,.slice A9 fs.length c9]|_=>True)
  (fun L U W=>Gn w2.drew o z (L 4) (L 5) (L 6) (L 7) (L 8) (L 9) (L 10) (L 11) (L 12) (U 4) (U 5) (U 6) (U 7) (U 8) (U 9) (U 11) (U 12) W) (Gn.start) ?_ ?_
 ·exact hM
 rintro L U W hL hφ hR;clear hφ;obtain⟨n,a,b,c,r,B,hF,u9,u11,u12,hB1,hB2,hrg,hbe⟩:=hR.fin (hL 4 aK) (hL 6 aK) (hL 9 aK) (hL 10 aK) (hL 11 aK) (hL 12 aK);simp only[u9,u11,u12];clear hR hL u9 u11 u12;have HF:=Aa hF;have HB:=@Aa (Below w w W) (Hb2.o.trans (((Aq _ _).drew.trans (hbe.mono aL)).mono Hb2.o.size));have hl0:w.heap.size<W.heap.size:=by have:=Hl0.o;have:=hbe.size;omega
 have q0:W.cell? (w,0)=some xv:=(hbe.cell (p:=⟨w.heap.size,0,none⟩) Hl0.o).trans X0.o;have hBw:w.heap.size<=B:=by have:=Hl0.o;omega
 clear hbe hF;cases o with
 |none=>
  simp only[Option.isSome_none];clear hrg;go_wp2_with fail;refine aF (v:=.tuple #[.pointer none,(60::z:List UInt8),.bool false]) (by simp[results,results68,go_sem]) rfl ?_;exact Bl.no rfl rfl HB.o
 |some y=>
  obtain⟨f,q⟩:=y;obtain⟨rfl,rfl,rfl,rfl,rfl⟩:=HF.o.2.2 f q rfl;simp only[Option.isSome_some];have hrl:=HF.o.1;obtain⟨hkf,hkfl,hft⟩:=HFd.o f r rfl;have y0:W.cell? (B,0)=(f.tag:Int):=fC;have y2:W.cell? (B,2)=some (.string ⟨(Bj f.kind).toArray⟩):=by simpa using Ab hrg 2 rfl
  have HRd:=Aa (fun(s:List UInt8) (W:World) h1 h2=>HRd.o f.kind hkf s W h1 h2);have Hft:=Aa hft;generalize hkb2:Bj f.kind=kf at *;clear hrg hkf hft;cases r with
  |nil=>
   go_wp2_with fail;refine aF (v:=.tuple #[.pointer none,(60::z:List UInt8),.bool false]) (by simp[results,results68,go_sem]) rfl ?_;exact Bl.no rfl rfl HB.o
  |cons c9 q1=>
   by_cases h61:c9=61
   ·subst h61;have HU:=@Aa (unL R (some (f,61::q1))=match R f.kind q1 with|none=>none|some (v,q)=>(match Ar 62 q with|some z'=>some (.mk 85 [] f.tag [v],z')|none=>none)) (by first|(simp only[unL,Bq];done)|(simp only[unL,Bq];rfl));have t61:((((61:UInt8).toNat:Nat):Int) != 61)=false:=rfl;have HW9:=@Aa (Below w0 w0 W.drew) ((Hw.o.trans (HB.o.mono Hw.o.size)).drew);have hq1:q1.length<=1000000:=by simp at hrl;omega
    have HCR:=Aa (HRd.o q1 W.drew HW9.o hq1);generalize R f.kind q1=oq at *;simp only[List.length_cons]at hrl;go_wp2_with fail;refine Bi [105,106,107,108,109,110,111,112,104,113,114,115,19,20,21] aO aO aO (fun u=>by dsimp only[Qbm,Bm,List.set,am,Nat.reduceAdd])
     (fun ix v W5=>match ix with|0=>v=.agg #[xv]|1=>v=(61::q1:List UInt8)|2=>v=(q1:List UInt8)|3=>v=(B,2)|4=>v=(kf:List UInt8)|5=>v=.int .i64 dd|6=>v=(d:Int)|_=>True)
     (fun L U W5=>Gh (SrQ W.drew (Af xs) f.kind oq) (W.drew) (L 7) (L 8) (L 9) (L 10) (L 11) (L 12) (L 13) (L 14) (U 7) (U 8) (U 9) (U 10) (U 11) (U 12) (U 13) (U 14) W5) (fun _ _=>True) (fun _ _ _ _ _ h=>h) (⟨fun _=>rfl,fun h=>Bool.noConfusion h⟩) ?_ ?_
    ·repeat (first|exact Ah.nil|(refine Ah.cons ?_ ?_;rotate_left))
     all_goals
      rintro L U W5 hL hpre hR hun hdep K hK;have HR:=Aa hR;have Hdep:=Aa hdep;clear hun hdep hR;first|(simp[Region.binds]at hpre;done)|simp[Region.binds]at hpre|clear hpre
     ·exact jb
     ·exact hG
     ·go_simp;rw[if_pos aH];go_simp;exact hK q1 _ _ rfl Ac HR.o aI
     ·exact hG
     ·exact jc
     ·exact hG
     ·exact jF
     ·exact iz
     ·exact jS
     ·exact j4
     ·exact j5
     ·exact j6
     ·exact jQ
     ·exact jG
     ·exact jH
    rintro L U W5 hL hφ hR;clear hφ;obtain⟨vp,vr,vk,hq,ua,ub,ue⟩:=hR.fin (hL 7 aK) (hL 12 aK) (hL 13 aK) (hL 14 aK);simp only[ua,ub,ue];clear hR hL ua ub ue;have HB5:=@Aa (Below w w W5) ((HB.o.drew).trans (hq.1.mono (by simp;exact HB.o.size)));have y05:W5.cell? (B,0)=(f.tag:Int):=(hq.1.cell (p:=⟨B,0,none⟩) (by simpa using hB2)).trans y0;have hz5:=hq.1.size;simp only[World.size_drew]at hz5;obtain⟨_,hm⟩:=hq;cases oq with
    |none=>
     obtain⟨⟨q0,rfl⟩,⟨r0,rfl⟩,rfl⟩:=hm;have HN:=Aa HU.o;go_wp2_with fail;refine aF (v:=.tuple #[.pointer none,(60::z:List UInt8),.bool false]) (by simp[results,results68,go_sem]) rfl ?_;exact Bl.no HN.o rfl HB5.o
    |some y=>
     obtain⟨v,r1⟩:=y;obtain⟨⟨b5,rfl,hsv⟩,rfl,rfl⟩:=hm;have Hsv:=Aa hsv;clear hsv;cases r1 with
     |nil=>
      have HN:=Aa HU.o;go_wp2_with fail;refine aF (v:=.tuple #[.pointer none,(60::z:List UInt8),.bool false]) (by simp[results,results68,go_sem]) rfl ?_;exact Bl.no HN.o rfl HB5.o
     |cons c8 z8=>
      by_cases h62:c8=62
      ·subst h62;have HY:=@Aa (unL R (some (f,61::q1))=some (.mk 85 [] f.tag [v],z8)) (by rw[HU.o];simp only[Bq]);have t62:((((62:UInt8).toNat:Nat):Int) != 62)=false:=rfl;go_wp2_with fail;refine Ge [128,129,130,131,132,133,134,135,136,137,8,9,10]
        (fun ix v W=>match ix with|0=>v=(kb:List UInt8)|1=>v=B|2=>v=(f.tag:Int)|4=>v=b5|8=>v=(62::z8:List UInt8)|9=>v=(z8:List UInt8)|11=>v=(z8:List UInt8)|12=>v=.bool true|_=>True)
        (fun L U W=>Fh W5.drew kb f.tag b5 (L 3) (L 5) (L 6) (L 7) (L 10) (U 3) (U 5) (U 6) (U 7) (U 10) W) (Fh.start) ?_ ?_
       ·repeat (first|exact Ah.nil|(refine Ah.cons ?_ ?_;rotate_left))
        all_goals
         rintro L U W hL hpre HR Hdep K hK;first|(simp[Region.binds]at hpre;done)|simp[Region.binds]at hpre|clear hpre
        iterate 2
         ·exact hG
        ·have y06:=(HR.o.be.cell (p:=⟨B,0,none⟩) aM).trans ((aB _ _).trans y05);go_simp;first|exact hK _ _ _ rfl Ac HR.o rfl|exact kF hK HR.o
        ·have h6:L 6=false:=Ax Hdep.o 6 3 rfl hL;have h7:L 7=false:=Ax Hdep.o 7 6 rfl h6;go_simp;exact hK _ _ _ Ac Ac (HR.o.put3 h6 h7 _) aI
        ·exact hG
        ·have h6:L 6=false:=Ax Hdep.o 6 5 rfl hL;have h7:L 7=false:=Ax Hdep.o 7 6 rfl h6;go_simp;exact hK _ _ _ Ac Ac (HR.o.put5 h6 h7 _) aI
        ·have l3:=hpre.2.1;have l5:=hpre.2.2;obtain⟨B3,u3,_⟩:=HR.o.a3 l3;obtain⟨B5,u5,_⟩:=HR.o.a5 l5;simp only[u3,u5];go_simp;exact hK (.agg #[kb,.string ⟨#[85]⟩,.slice (B3,0) 1 1,.slice (B5,0) 1 1]) _ _ Ac Ac (HR.o.put6 l3 l5 (by simp[u3,u5])) (by simp[Act.put,hpre,u3,u5])
        ·have l6:L 6=true:=aJ;have u6:=(HR.o.a6 l6).2.2;have h10:L 10=false:=Ax Hdep.o 10 7 rfl hL;obtain⟨B3,u3,_⟩:=HR.o.a3 (HR.o.a6 l6).1;obtain⟨B5,u5,_⟩:=HR.o.a5 (HR.o.a6 l6).2.1;rw[u3,u5]at u6;simp only[u6];go_simp;exact hK _ _ _ Ac Ac (HR.o.put7 l6 h10 (by rw[u3,u5])) (by simp[Act.put,hpre,u6,u3,u5])
        ·exact hG
        ·go_simp;rw[if_pos aH];go_simp;exact hK z8 _ _ rfl Ac HR.o aI
        ·go_simp;exact hK _ _ _ Ac Ac HR.o.put10 aI
        iterate 2
         ·exact hG
       rintro L U W hL hφ hR;obtain⟨B7,u10,hS⟩:=hR.fin (hL 7 aK) (hL 10 aK) (lo:=w.heap.size) (by simp;exact HB5.o.size) ((Hsv.o.mono (fun c hc _=>ad (by simp;exact HB.o.size) hc)).after (Aq _ _).drew);have u11:U 11=(z8:List UInt8):=hφ 11 aK;have u12:U 12=.bool true:=hφ 12 aK;have hbe:=hR.be;simp only[u10,u11,u12];clear hR hL hφ u10 u11 u12;go_wp2_with fail;refine aF (v:=.tuple #[B7,z8,.bool true]) (by simp[results,results68,go_sem]) rfl ?_;rw[HY.o];refine⟨⟨B7,rfl,?_⟩,HB5.o.trans ((((Aq _ _).drew).trans (hbe.mono aL)).mono HB5.o.size)⟩;rw[Hkd.o f v Hft.o];exact hS
      have t62:((c8.toNat:Int) != 62)=true:=by have:=Am h62;simpa using this
      have HN:=@Aa (unL R (some (f,61::q1))=none) (by rw[HU.o];simp only[Di h62]);clear h62;go_wp2_with fail;refine aF (v:=.tuple #[.pointer none,(60::z:List UInt8),.bool false]) (by simp[results,results68,go_sem]) rfl ?_;exact Bl.no HN.o rfl HB5.o
   have t61:((c9.toNat:Int) != 61)=true:=by have:=Am h61;simpa using this
   have HN:=@Aa (unL R (some (f,c9::q1))=none) (by simp only[unL,Di h61]);clear h61;go_wp2_with fail;refine aF (v:=.tuple #[.pointer none,(60::z:List UInt8),.bool false]) (by simp[results,results68,go_sem]) rfl ?_;exact Bl.no HN.o rfl HB.o
theorem Qil(w0:World)(xs:List (Ty × Value))(xv:Value)(hxv:xv.oneCell'=true)(hsc:Jq w0 xv xs)(k:Kd)(hk:Cw k)(hsg:k.signs=[])(hbs:k.base=[64])(nm:List UInt8)(fs:List Fd)(tv:Value)(hx:Dq xs k.name=some (⟨82,nm,fs⟩,tv))(hfs:Er w0 tv fs)(htg:∀f∈fs,f.tag<=200)
  (d:Nat) (hd:d<=1000) (z:List UInt8) (w:World) (hw:Below w0 w0 w) (hz:z.length<=1000000) (o:Option (Fd × List UInt8)) (ho:o=Fq fs z) (q:Option (Vl × List UInt8))
  (HC:∀W,Below w0 w0 W->Calls prog 91 #[.agg #[xv],z,.string ⟨(Bj k).toArray⟩,.agg #[.int .u8 82,nm,tv],.int .i64 ((d+1:Nat):Int)] W (Bl (Af xs) k q W)):
  Calls prog 68 #[.agg #[xv],(123::z:List UInt8),.string ⟨(Bj k).toArray⟩,.int .i64 ((d+1:Nat):Int)] w (Bl (Af xs) k q w):=by
 have hkd:True:=Ac;have d2:(((d+1:Nat):Int))<=1001:=aH;generalize (((d+1:Nat):Int))=dd at *;have HC:=Aa HC;obtain⟨A9,c9,rfl,hl9,_⟩:=hfs;have HFs:=@Aa (∀W,Below w0 w0 W->Er W (.slice A9 fs.length c9) fs) (fun W hW=>Er.below (show Er w0 (.slice A9 fs.length c9) fs from⟨A9,c9,rfl,hl9,by assumption⟩) hW)
 have Hr:=Aa (show ∀W,Below w0 w0 W->Calls prog 44 #[xv,.string ⟨(Bj k).toArray⟩] W fun e w'=>e=.returned (.tuple #[.agg #[.int .u8 82,nm,.slice A9 fs.length c9],.bool true])/\Below W W w' from fun W hW=>by
  have h:=Fu xv xs k W (hsc.below hW) hk;rw[show Kz xs k=some (⟨82,nm,fs⟩,.slice A9 fs.length c9)from by unfold Kz;rw[if_pos ⟨hsg,hbs⟩];exact hx]at h;exact h)
 have hkl:(Bj k).length<=100:=dr;have hzl:z.length<=1000000:=hz;have Hw:=Aa hw;have Hkd:=Aa hkd;generalize Bj k=kb at *;clear hw hx hsc htg ho;go_enter func68,ntmps68;go_wp2_with fail;refine(Hr.o _ (Hw.o.alloc Hw.o.size _)).mono ?_;rintro e w1 ⟨rfl,hb1⟩;have hz1:=hb1.size;simp only[World.size_alloc]at hz1;have Hb1:=Aa (((Aq w.heap.size w).alloc (Ap _) _).trans (hb1.mono aL));have X0:=@Aa (w1.cell? (w,0)=some xv) ew;clear hb1;go_upto_region 3 with fail
 obtain⟨w2,hw2⟩:∃w2,w2=w1.alloc (.cells #[.int .u8 82,nm,.slice A9 fs.length c9] 100):=⟨_,rfl⟩
 have Hb2:=@Aa (Below w w w2) ef;have Hl0:=@Aa (w.heap.size<w2.drew.heap.size) gg;have Hl1:=@Aa (w1.heap.size<w2.drew.heap.size) (by rw[hw2];simp);have X0:=@Aa (w2.drew.cell? (w,0)=some xv) eF;have X1:=@Aa (w2.drew.cell? (w1,0)=some (.int .u8 82)) cN;have X2:=@Aa (w2.drew.cell? (w1,1)=nm) cN;have X3:=@Aa (w2.drew.cell? (w1,2)=some (.slice A9 fs.length c9)) cN;rw[<-hw2];clear hw2;have HC9:=Aa (HC.o w2.drew (Hw.o.trans (Hb2.o.mono Hw.o.size)).drew);refine Ge [38,39,40,41,42,43,44,45,46,47,8,9,10]
  (fun ix v W=>match ix with|0=>v=.agg #[xv]|1=>v=(123::z:List UInt8)|2=>v=(z:List UInt8)|3=>v=(kb:List UInt8)|4=>v=.agg #[.int .u8 82,nm,.slice A9 fs.length c9]|5=>v=.int .i64 dd|_=>True)
  (fun L U W=>Gh (SrQ w2.drew (Af xs) k q) (w2.drew) (L 6) (L 6) (L 7) (L 8) (L 9) (L 10) (L 11) (L 12) (U 6) (U 6) (U 7) (U 8) (U 9) (U 10) (U 11) (U 12) W) (⟨fun _=>rfl,fun h=>Bool.noConfusion h⟩) ?_ ?_
 ·repeat (first|exact Ah.nil|(refine Ah.cons ?_ ?_;rotate_left))
  all_goals
   rintro L U W hL hpre HR Hdep K hK;first|(simp[Region.binds]at hpre;done)|simp[Region.binds]at hpre|clear hpre
  ·have h6:L 6=false:=Ax Hdep.o 6 0 rfl hL;have hW:=HR.o.no h6;subst hW;have q0:=X0.o;go_simp;first|exact hK _ _ _ rfl Ac HR.o rfl|exact kF hK HR.o
  ·exact hG
  ·exact ja
  ·exact hG
  ·have h6:L 6=false:=Ax Hdep.o 6 4 rfl hL;have hW:=HR.o.no h6;subst hW;have q1:=X1.o;have q2:=X2.o;have q3:=X3.o;go_simp;first|exact hK _ _ _ rfl Ac HR.o rfl|exact kF hK HR.o
  ·exact hG
  ·have h7:L 7=false:=Ax Hdep.o 7 6 rfl hL;have h8:L 8=false:=Ax Hdep.o 8 6 rfl hL;have h9:L 9=false:=Ax Hdep.o 9 6 rfl hL;have h10:L 10=false:=Ax Hdep.o 10 7 rfl h7;have h11:L 11=false:=Ax Hdep.o 11 8 rfl h8;have h12:L 12=false:=Ax Hdep.o 12 9 rfl h9;have hW:=HR.o.no hL;subst hW;go_simp;refine HC9.o.mono ?_;rintro e w5 hp;obtain⟨vp,vr,vk,rfl,hq⟩:=hp.q;go_simp;exact hK _ _ _ Ac Ac (Gh.call2 h7 h8 h9 h10 h11 h12 hq) aI
  ·have l6:L 6=true:=aJ;obtain⟨vp,vr,vk,um,g0,g1,g2⟩:=HR.o.get l6 l6;simp only[um];go_simp;exact hK _ _ _ Ac Ac g0 cf
  ·have l6:L 6=true:=aJ;obtain⟨vp,vr,vk,um,g0,g1,g2⟩:=HR.o.get l6 l6;simp only[um];go_simp;exact hK _ _ _ Ac Ac g1 cf
  ·have l6:L 6=true:=aJ;obtain⟨vp,vr,vk,um,g0,g1,g2⟩:=HR.o.get l6 l6;simp only[um];go_simp;exact hK _ _ _ Ac Ac g2 cf
  ·have l7:L 7=true:=aJ;go_simp;exact hK (U 7) _ _ Ac Ac (HR.o.as0 l7) aI
  ·have l8:L 8=true:=aJ;go_simp;exact hK (U 8) _ _ Ac Ac (HR.o.as1 l8) aI
  ·have l9:L 9=true:=aJ;go_simp;exact hK (U 9) _ _ Ac Ac (HR.o.as2 l9) aI
 rintro L U W hL hφ hR;clear hφ;obtain⟨vp,vr,vk,hq,ua,ub,ue⟩:=hR.fin (hL 6 aK) (hL 10 aK) (hL 11 aK) (hL 12 aK);simp only[ua,ub,ue];clear hR hL ua ub ue;go_wp2_with fail;refine aF (v:=.tuple #[vp,vr,vk]) (by simp[results,results68,go_sem]) rfl ?_;exact hq.post Hb2.o.drew
theorem Qhx(S:List Ty)(k:Kd)(w0:World)(xv:Value)(hxv:xv.oneCell'=true)(kb:List UInt8)(hkl:kb.length<=100)(st:Int)(nm:ByteArray)(A:Option Addr)(n c:Nat)(b:Bool)(c0:UInt8)(z:List UInt8)(dd:Int)(w:World)(hw:Below w0 w0 w)(hz:z.length<=1000000)
  (hr:∀W,Below w0 w0 W->Calls prog 44 #[xv,kb] W fun e w'=>e=.returned (.tuple #[.agg #[.int .u8 st,.string nm,.slice A n c],.bool b])/\Below W W w')
  (hc:((st == 82)=true/\((c0.toNat:Int) == 123)=false/\(st == 69)=false/\(st == 85)=false)\/((st == 82)=false/\(st == 69)=true/\((c0.toNat:Int) == 35)=false/\(st == 85)=false)\/((st == 82)=false/\(st == 69)=false/\(st == 85)=true/\((c0.toNat:Int) == 60)=false)\/((st == 82)=false/\(st == 69)=false/\(st == 85)=false)):
  Calls prog 68 #[.agg #[xv],(c0::z:List UInt8),kb,.int .i64 dd] w (Bl S k none w):=by
 have Hr:=Aa hr;have Hw:=Aa hw;clear hr hw;have key:∀w1,Below (w.alloc (.cells #[xv] 92)).heap.size (w.alloc (.cells #[xv] 92)) w1->Below w w (w1.alloc (.cells #[.int .u8 st,.string nm,.slice A n c] 100)):=fun w1 hb=>by
  have h1:=((Aq w.heap.size w).alloc (Ap _) (.cells #[xv] 92)).trans (hb.mono aL);exact h1.alloc h1.size _
 have Hkey:=Aa key;clear key;rcases hc with⟨h1,h2,h3,h4⟩|⟨h1,h2,h3,h4⟩|⟨h1,h2,h3,h4⟩|⟨h1,h2,h3⟩;all_goals
  go_enter func68,ntmps68;go_wp2_with fail;refine(Hr.o _ (Hw.o.alloc Hw.o.size _)).mono ?_;rintro e w1 ⟨rfl,hb1⟩;have Hb2:=Aa (Hkey.o w1 hb1);clear hb1;go_wp2_with fail;refine aF (v:=.tuple #[.pointer none,(c0::z:List UInt8),.bool false]) (by simp[results,results68,go_sem]) rfl ?_;exact Bl.no rfl rfl Hb2.o
structure RS(S:List Ty)(K:Kd->List UInt8->Option (Vl × List UInt8))(fs:List Fd)(s:List UInt8)(ps:List (Fd × Vl))(last:Nat)(tt:List UInt8):Prop where
 eq:Dy S K fs 201 0 s=N7 ps (Dy S K fs (201 - ps.length) last tt)
 lo:ps.length<=last
 hi:last<=200
 la:last=(ps.map (·.1.tag)).getLastD 0
 fd:∀p∈ps,Au fs p.1.tag=some p.1
 le:tt.length<=s.length
section
variable {S:List Ty} {K:Kd->List UInt8->Option (Vl × List UInt8)} {fs:List Fd} {s tt r q z z':List UInt8} {ps:List (Fd × Vl)} {last:Nat} {f:Fd} {v:Vl}
theorem RS.init:RS S K fs s [] 0 s:=⟨by cases h:Dy S K fs 201 0 s<;>simp[N7,h],Ap _,by omega,rfl,by simp,Ap _⟩
theorem RS.one(h:RS S K fs s ps last tt):∃m,201 - ps.length=m+1/\Dy S K fs 201 0 s=N7 ps (match Cy K fs tt with
  |none=>none
  |some (p,r)=>if p.1.tag<=last\/Bc p.2=Jp S p.1 then none else match Ar 44 r with
   |some q=>(match Dy S K fs m p.1.tag q with|some (ps,z)=>some (p::ps,z)|none=>none)
   |none=>match Ar 125 r with|some q=>some ([p],q)|none=>none):=
 ⟨200 - ps.length,by have:=h.lo;have:=h.hi;omega,by rw[h.eq,show 201 - ps.length=(200 - ps.length)+1 by have:=h.lo;have:=h.hi;omega];rfl⟩
theorem RS.tagN(h:RS S K fs s ps last tt)(h1:Fq fs tt=none):Dy S K fs 201 0 s=none:=by
 obtain⟨m,_,e⟩:=h.one;rw[e];simp[Cy,h1,N7]
theorem RS.sign(h:RS S K fs s ps last tt)(h1:Fq fs tt=some (f,r))(h2:Ar 61 r=none):Dy S K fs 201 0 s=none:=by
 obtain⟨m,_,e⟩:=h.one;rw[e];simp[Cy,h1,h2,N7]
theorem RS.ord(h:RS S K fs s ps last tt)(h1:Fq fs tt=some (f,r))(h3:f.tag<=last):Dy S K fs 201 0 s=none:=by
 obtain⟨m,_,e⟩:=h.one;rw[e];cases h2:Ar 61 r with
 |none=>simp[Cy,h1,h2,N7]
 |some q=>
  cases hk:K f.kind q with
  |none=>simp[Cy,h1,h2,hk,N7]
  |some x=>simp[Cy,h1,h2,hk,N7,h3]
theorem RS.rd(h:RS S K fs s ps last tt)(h1:Fq fs tt=some (f,r))(h2:Ar 61 r=some q)(hk:K f.kind q=none):Dy S K fs 201 0 s=none:=by
 obtain⟨m,_,e⟩:=h.one;rw[e];simp[Cy,h1,h2,hk,N7]
theorem RS.sam(h:RS S K fs s ps last tt)(h1:Fq fs tt=some (f,r))(h2:Ar 61 r=some q)(hk:K f.kind q=some (v,z))(h4:Bc v=Jp S f):Dy S K fs 201 0 s=none:=by
 obtain⟨m,_,e⟩:=h.one;rw[e];simp[Cy,h1,h2,hk,N7,h4]
theorem RS.sep(h:RS S K fs s ps last tt)(h1:Fq fs tt=some (f,r))(h2:Ar 61 r=some q)(hk:K f.kind q=some (v,z))(h5:Ar 44 z=none)(h6:Ar 125 z=none):Dy S K fs 201 0 s=none:=by
 obtain⟨m,_,e⟩:=h.one;rw[e];simp[Cy,h1,h2,hk,N7,h5,h6]
theorem RS.go(h:RS S K fs s ps last tt)(h1:Fq fs tt=some (f,r))(h2:Ar 61 r=some q)(h3:last<f.tag)(hk:K f.kind q=some (v,z))(h4:Bc v≠Jp S f)(h5:Ar 44 z=some z')(hl:z'.length<=tt.length):
  RS S K fs s (ps++[(f,v)]) f.tag z':=by
 obtain⟨m,hm,e⟩:=h.one;obtain⟨g1,g2,_,_⟩:=H4 h1;refine⟨?_,by have:=h.lo;simp;omega,g1,by simp,fun p hp=>?_,ad hl h.le⟩
 ·rw[e,show 201 - (ps++[(f,v)]).length=m by simp;omega];simp only[Cy,h1,h2,hk,h5];rw[if_neg cQ];cases Dy S K fs m f.tag z'<;>simp[N7]
 rcases af.1 hp with hp|hp
 ·exact h.fd p hp
 rw[aq]at hp;subst hp;exact g2
theorem RS.fin(h:RS S K fs s ps last tt)(h1:Fq fs tt=some (f,r))(h2:Ar 61 r=some q)(h3:last<f.tag)(hk:K f.kind q=some (v,z))(h4:Bc v≠Jp S f)(h5:Ar 44 z=none)(h6:Ar 125 z=some z'):
  Dy S K fs 201 0 s=some (ps++[(f,v)],z')/\∀p∈ps++[(f,v)],Au fs p.1.tag=some p.1:=by
 obtain⟨m,hm,e⟩:=h.one;obtain⟨g1,g2,_,_⟩:=H4 h1;refine⟨?_,fun p hp=>?_⟩
 ·rw[e];simp only[Cy,h1,h2,hk,h5,h6];rw[if_neg cQ];simp[N7]
 rcases af.1 hp with hp|hp
 ·exact h.fd p hp
 rw[aq]at hp;subst hp;exact g2
end
end
end Go.Proofs.YtkgkoicedddkmaaGreatDoor
