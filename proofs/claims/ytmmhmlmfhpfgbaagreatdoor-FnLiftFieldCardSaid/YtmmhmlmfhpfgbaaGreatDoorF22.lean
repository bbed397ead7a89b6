/- Texts joined. Conditions: as each theorem names them. -/
import Derived.Test.YtmmhmlmfhpfgbaaGreatDoorF21
import Derived.Test.YtmmhmlmfhpfgbaaGreatDoorF23
set_option maxRecDepth 100000
set_option maxHeartbeats 32000000
set_option linter.unusedVariables false
set_option linter.unusedSimpArgs false
namespace Go.Proofs.YtmmhmlmfhpfgbaaGreatDoor
open Go.RowKit Go.Proofs.Tryz
inductive SV where
 |mk (kind text:List UInt8) (tags:List Nat) (kids:List SV)
def Se(S:List Ty)(k:Kd)(g:Nat):Kd:=match Bk S k.name with
 |some t=>(match Au t.fields g with|some f=>f.kind|none=>Kd.nil)
 |none=>Kd.nil
mutual
def Cd(S:List Ty):Kd->Vl->SV
 |k,.mk w tx tg ks=>
  if w=91\/w=63 then .mk (Ax k) [] [] (Xg S k.part ks)
  else if w=69 then .mk (Ax k) [69] [tg] []
  else if w=85 then .mk (Ax k) [85] [tg] (Xg S (Se S k tg) ks)
  else if w=82 then .mk (Ax k) [82] (ks.map Vl.tag) (Qgt S k ks)
  else .mk (Ax k) (if w=116 then 39::(tx++[39])else tx) [] []
def Xg(S:List Ty):Kd->List Vl->List SV
 |_,[]=>[]
 |k,x::xs=>Cd S k x::Xg S k xs
def Qgt(S:List Ty):Kd->List Vl->List SV
 |_,[]=>[]
 |k,.mk _ _ tg ks::xs=>Xg S (Se S k tg) ks++Qgt S k xs
end
theorem Rn(S:List Ty)(k:Kd):∀ks:List Vl,Xg S k ks=ks.map (Cd S k)
 |[]=>rfl
 |x::xs=>by rw[Xg,Rn S k xs];rfl
theorem Qbh(S:List Ty)(k:Kd):∀ps:List (Fd × Vl),Qgt S k (ps.map Dk)=ps.map fun p=>Cd S (Se S k p.1.tag) p.2
 |[]=>rfl
 |p::ps=>by rw[ay,Dk,Qgt,Qbh S k ps,Xg,Xg];rfl
theorem Yk(S:List Ty)(k:Kd)(m:Nat):Cd S k (.mk 110 (Ba m) 0 [])=.mk (Ax k) (Ba m) [] []:=by simp[Cd]
theorem Tt(S:List Ty)(k:Kd)(s:List UInt8):Cd S k (.mk 116 s 0 [])=.mk (Ax k) (39::(s++[39])) [] []:=by simp[Cd]
theorem Tz(S:List Ty)(k:Kd)(s:List UInt8):Cd S k (.mk 102 s 0 [])=.mk (Ax k) s [] []:=by simp[Cd]
theorem Qn(S:List Ty)(k:Kd)(ks:List Vl):Cd S k (.mk 91 [] 0 ks)=.mk (Ax k) [] [] (ks.map (Cd S k.part)):=by simp[Cd,Rn]
theorem Kq(S:List Ty)(k:Kd)(ks:List Vl):Cd S k (.mk 63 [] 0 ks)=.mk (Ax k) [] [] (ks.map (Cd S k.part)):=by simp[Cd,Rn]
theorem Qq(S:List Ty)(k:Kd)(g:Nat):Cd S k (.mk 69 [] g [])=.mk (Ax k) [69] [g] []:=by simp[Cd]
theorem Pf(S:List Ty)(k:Kd)(g:Nat)(x:Vl):Cd S k (.mk 85 [] g [x])=.mk (Ax k) [85] [g] [Cd S (Se S k g) x]:=by simp[Cd,Rn]
theorem Qs(S:List Ty)(k:Kd)(ps:List (Fd × Vl)):Cd S k (.mk 82 [] 0 (ps.map Dk))=.mk (Ax k) [82] (ps.map fun p=>p.1.tag) (ps.map fun p=>Cd S (Se S k p.1.tag) p.2):=by
 simp[Cd,Qbh];exact fun _ _ _=>rfl
theorem Ez{S:List Ty}{k:Kd}{t:Ty}{f:Fd}(ht:Bk S k.name=some t)(hf:Au t.fields f.tag=some f):Se S k f.tag=f.kind:=by unfold Se;rw[ht];simp only;rw[hf]
def De(l:List Nat):List Value:=l.map fun(n:Nat)=>.int .i64 (n:Int)
def Dx(l:List Nat):List Value:=l.map fun b=>.pointer (b,0)
inductive Fl(P:Nat->Prop)(w:World):Nat->SV->Prop
 |mk {b:Nat} {v:SV} (kind text:List UInt8) (tags:List Nat) (A1 A2:Option Addr) (c1 c2:Nat) (xs:List (Nat × SV)) (hv:v=.mk kind text tags (xs.map (·.2))) (hb:b<w.heap.size) (hP:P b)
   (h0:w.cell? (b,0)=kind) (h1:w.cell? (b,1)=text) (h2:w.cell? (b,2)=some (.slice A1 tags.length c1)) (h3:w.cell? (b,3)=some (.slice A2 xs.length c2))
   (hr1:B0 w A1 tags.length (De tags)) (hr2:B0 w A2 xs.length (Dx (xs.map (·.1)))) (hl1:tags.length<=1000) (hl2:xs.length<=1000) (hp1:∀g o,0<tags.length->A1=some ⟨g,o,none⟩->P g) (hp2:∀g o,0<xs.length->A2=some ⟨g,o,none⟩->P g)
   (h:∀x∈xs,Fl P w x.1 x.2):Fl P w b v
theorem B0.keptP{P:Nat->Prop}{w w':World}{A:Option Addr}{n:Nat}{xs:List Value}(h:B0 w A n xs)(hP:∀g o,0<n->A=some ⟨g,o,none⟩->P g)(hc:∀b o u,P b->b<w.heap.size->w.cell? ⟨b,o,none⟩=some u->w'.cell? ⟨b,o,none⟩=some u)(hz:w.heap.size<=w'.heap.size):B0 w' A n xs:=by
 refine⟨h.1,h.2.1,fun hn=>?_⟩;obtain⟨b,off,e,hlt,hcs⟩:=h.2.2 hn;exact⟨b,off,e,ac hlt hz,fun j u hu=>hc b _ u (hP b off hn e) hlt (hcs j u hu)⟩
theorem Fl.kept{P Q:Nat->Prop}{w w':World}{b:Nat}{v:SV}(h:Fl P w b v)(hc:∀b o u,P b->b<w.heap.size->w.cell? ⟨b,o,none⟩=some u->w'.cell? ⟨b,o,none⟩=some u)
  (hz:w.heap.size<=w'.heap.size) (hQ:∀b,P b->b<w.heap.size->Q b):Fl Q w' b v:=by
 induction h with
 |mk kind text tags A1 A2 c1 c2 xs hv hb hP h0 h1 h2 h3 hr1 hr2 hl1 hl2 hp1 hp2 h ih=>
  refine .mk kind text tags A1 A2 c1 c2 xs hv (ac hb hz) (hQ _ hP hb) (hc _ _ _ hP hb h0) (hc _ _ _ hP hb h1) (hc _ _ _ hP hb h2) (hc _ _ _ hP hb h3) (hr1.keptP hp1 hc hz) (hr2.keptP hp2 hc hz) hl1 hl2 (fun g o hn e=>?_) (fun g o hn e=>?_) ih
  ·obtain⟨b',off,e2,hlt,_⟩:=hr1.2.2 hn;rw[e]at e2;injection e2 with e2;injection e2 with e2 _ _;subst e2;exact hQ g (hp1 g o hn e) hlt
  obtain⟨b',off,e2,hlt,_⟩:=hr2.2.2 hn;rw[e]at e2;injection e2 with e2;injection e2 with e2 _ _;subst e2;exact hQ g (hp2 g o hn e) hlt
theorem Fl.after{P:Nat->Prop}{w w':World}{b:Nat}{v:SV}(h:Fl P w b v)(hb:Below w w w'):Fl P w' b v:=
 h.kept (fun b o u _ hl hu=>(hb.cell (p:=⟨b,o,none⟩) hl).trans hu) hb.size fun _ h _=>h
theorem Fl.mono{P Q:Nat->Prop}{w:World}{b:Nat}{v:SV}(h:Fl P w b v)(hQ:∀b,P b->b<w.heap.size->Q b):Fl Q w b v:=h.kept (fun _ _ _ _ _ hu=>hu) (An _) hQ
theorem Fl.grown{P:Nat->Prop}{w w':World}{b:Nat}{v:SV}{row:Option Nat}(h:Fl P w b v)(hg:w.grownBy w' row)(hne:∀b,P b->some b≠row):Fl P w' b v:=
 h.kept (fun b o u hp _ hu=>hg.cell hu (hne b hp)) hg.size fun _ h _=>h
theorem So:(prog.info? 76).map (fun i=>(i.zero,i.size,i.bytes))=some (some (.pointer none),1,8):=aN
theorem Zb:(prog.info? 3).map (fun i=>(i.zero,i.size,i.bytes))=some (some (.int .i64 0),1,8):=aN
theorem Y7{W:World}{base s1 s2 n1 n2:Nat}{e1 e2:TypeId}{v1 v2:Value}{xs ys:List Value}(h:W.ownsRow base e1 s1 v1 n1 xs)(k:W.ownsRow base e2 s2 v2 n2 ys)(hne:e1≠e2):v1.ownBlock=none\/v1.ownBlock≠v2.ownBlock:=by
 obtain⟨_,⟨rfl,_⟩|⟨g,cap,cur,rfl,_,h3,_⟩⟩:=h
 ·exact .inl rfl
 obtain⟨_,⟨rfl,_⟩|⟨g',cap',cur',rfl,_,k3,_⟩⟩:=k
 ·exact .inr fY
 refine .inr fun e=>?_;injection e with e;simp only at e;subst e;rw[h3]at k3;injection k3 with k3;injection k3 with _ k3;exact hne k3
theorem Ng{base b:Nat}{v:Value}(h:∀k,v.ownBlock=some k->base<=k)(hb:b<base):v.ownBlock=none\/v.ownBlock≠some b:=by
 by_cases hr:v.ownBlock=none
 ·exact .inl hr
 exact .inr fun e=>by have:=h b e;omega
structure Ee(base B:Nat)(W:World)(h0 h1 tu tv ku kv:Value)(gs:List Nat)(xs:List (Nat × SV)):Prop where
 lt:B<W.heap.size
 bs:base<=W.heap.size
 hB:B<base
 bk:Qe W B
 c0:W.cell? (B,0)=some h0
 c1:W.cell? (B,1)=some h1
 c2:W.cell? (B,2)=some tu
 c3:W.cell? (B,3)=some ku
 tags:W.ownsRow base 3 1 tv gs.length (De gs)
 row:W.ownsRow base 76 1 kv xs.length (Dx (xs.map (·.1)))
 kids:∀x∈xs,Fl (fun c=>base<=c/\kv.ownBlock≠some c/\tv.ownBlock≠some c) W x.1 x.2
theorem Ee.after{base B:Nat}{W W':World}{h0 h1 tu tv ku kv:Value}{gs:List Nat}{xs:List (Nat × SV)}(h:Ee base B W h0 h1 tu tv ku kv gs xs)(hb:Below W W W'):Ee base B W' h0 h1 tu tv ku kv gs xs:=by
 obtain⟨hc,_,hz⟩:=Cj hb;exact⟨hz _ h.lt,ad h.bs hb.size,h.hB,h.bk.belowAt h.lt hb,(hc _ _ h.lt).trans h.c0,(hc _ _ h.lt).trans h.c1,(hc _ _ h.lt).trans h.c2,(hc _ _ h.lt).trans h.c3,Ct h.tags hb,Ct h.row hb,fun x hx=>(h.kids x hx).after hb⟩
theorem Ee.set2{base B:Nat}{W:World}{h0 h1 tu tv ku kv:Value}{gs:List Nat}{xs:List (Nat × SV)}(h:Ee base B W h0 h1 tu tv ku kv gs xs):Ee base B (W.setCell ⟨B,2,none⟩ tv) h0 h1 tv tv ku kv gs xs:=by
 have hg:=Am W B 2 tv;exact kU
theorem Ee.set3{base B:Nat}{W:World}{h0 h1 tu tv ku kv:Value}{gs:List Nat}{xs:List (Nat × SV)}(h:Ee base B W h0 h1 tu tv ku kv gs xs):Ee base B (W.setCell ⟨B,3,none⟩ kv) h0 h1 tu tv kv kv gs xs:=by
 have hg:=Am W B 3 kv;exact kU
theorem Ee.appK{base B:Nat}{W W':World}{h0 h1 tu tv ku kv kv':Value}{gs:List Nat}{xs:List (Nat × SV)}{x:Nat × SV}(h:Ee base B W h0 h1 tu tv ku kv gs xs)(hx:Fl (fun c=>base<=c/\kv.ownBlock≠some c/\tv.ownBlock≠some c) W x.1 x.2)
  (hown:W'.ownsRow base 76 1 kv' (xs.length+1) (Dx (xs.map (·.1))++[.pointer (some ⟨x.1,0,none⟩)])) (hg:W.grownBy W' kv.ownBlock) (hwh:kv'.ownBlock=kv.ownBlock\/∃k,kv'.ownBlock=some k/\W.heap.size<=k):Ee base B W' h0 h1 tu tv ku kv' gs (xs++[x]):=by
 have hn:some B≠kv.ownBlock:=fun e=>fO;refine⟨ac h.lt hg.size,ad h.bs hg.size,h.hB,h.bk.grown h.lt hg hn,hg.cell h.c0 hn,hg.cell h.c1 hn,hg.cell h.c2 hn,hg.cell h.c3 hn,h.tags.kept hg (Y7 h.tags h.row aJ),by simpa [Dx]using hown,fun y hy=>?_⟩;have hy':Fl (fun c=>base<=c/\kv.ownBlock≠some c/\tv.ownBlock≠some c) W y.1 y.2:=by
  rcases af.1 hy with hy|hy
  ·exact h.kids y hy
  rw[aq]at hy;subst hy;exact hx
 refine hy'.kept (fun b o v hb _ hv=>hg.cell hv fun e=>hb.2.1 e.symm) hg.size fun c hc hl=>⟨hc.1,?_,hc.2.2⟩
 rcases hwh with e|⟨k,e,hk⟩
 ·rw[e];exact hc.2.1
 exact kV
theorem Ee.appT{base B:Nat}{W W':World}{h0 h1 tu tv tv' ku kv:Value}{gs:List Nat}{xs:List (Nat × SV)}{g:Nat}(h:Ee base B W h0 h1 tu tv ku kv gs xs)
  (hown:W'.ownsRow base 3 1 tv' (gs.length+1) (De gs++[.int .i64 (g:Int)])) (hg:W.grownBy W' tv.ownBlock) (hwh:tv'.ownBlock=tv.ownBlock\/∃k,tv'.ownBlock=some k/\W.heap.size<=k):Ee base B W' h0 h1 tu tv' ku kv (gs++[g]) xs:=by
 have hn:some B≠tv.ownBlock:=fun e=>by have:=(h.tags.lt B e.symm).1;have:=h.hB;omega
 refine⟨ac h.lt hg.size,ad h.bs hg.size,h.hB,h.bk.grown h.lt hg hn,hg.cell h.c0 hn,hg.cell h.c1 hn,hg.cell h.c2 hn,hg.cell h.c3 hn,by simpa [De]using hown,h.row.kept hg (Y7 h.row h.tags aJ),fun y hy=>?_⟩;refine(h.kids y hy).kept (fun b o v hb _ hv=>hg.cell hv fun e=>hb.2.2 e.symm) hg.size fun c hc hl=>⟨hc.1,hc.2.1,?_⟩
 rcases hwh with e|⟨k,e,hk⟩
 ·rw[e];exact hc.2.2
 exact kV
theorem Qj1{w:World}{base k n m c:Nat}{e:TypeId}{A:Option Addr}{xs:List Value}(h:w.ownsRow base e k (.slice A m c) n xs):m=n:=by
 rcases h.2 with⟨e,h0⟩|⟨g,cap,cur,e,_⟩
 ·injection e with _ e1 e2;omega
 injection e with _ e1 e2
theorem Ee.push{base B n c:Nat}{W W':World}{A:Option Addr}{h0 h1 tu tv ku kv':Value}{gs:List Nat}{xs:List (Nat × SV)}{x:Nat × SV}(h:Ee base B W h0 h1 tu tv ku (.slice A n c) gs xs)(hx:Fl (fun c1=>base<=c1/\(Value.slice A n c).ownBlock≠some c1/\tv.ownBlock≠some c1) W x.1 x.2)
  (hown:W'.ownsRow base 76 1 kv' (xs.length+1) (Dx (xs.map (·.1))++[.pointer (some ⟨x.1,0,none⟩)])) (hg:W.grownBy W' (Value.slice A n c).ownBlock) (hwh:kv'.ownBlock=(Value.slice A n c).ownBlock\/∃k,kv'.ownBlock=some k/\W.heap.size<=k):
  ∃A6 c6,kv'=.slice A6 (xs++[x]).length c6/\Ee base B W' h0 h1 tu tv ku kv' gs (xs++[x])/\Below base W W':=by
 have hA:=h.appK hx hown hg hwh;have e:(xs++[x]).length=xs.length+1:=aK;rcases hown.2 with⟨e0,h0⟩|⟨g,cap,cur,e1,_⟩
 ·omega
 exact⟨some ⟨g,0,none⟩,cap,by rw[e,e1],hA,(Ao _ _).grown hg h.bs (fun k hk=>(h.row.lt k hk).1)⟩
theorem Ee.pushT{base B n c g:Nat}{W W':World}{A:Option Addr}{h0 h1 tu tv' ku kv:Value}{gs:List Nat}{xs:List (Nat × SV)}(h:Ee base B W h0 h1 tu (.slice A n c) ku kv gs xs)
  (hown:W'.ownsRow base 3 1 tv' (gs.length+1) (De gs++[.int .i64 (g:Int)])) (hg:W.grownBy W' (Value.slice A n c).ownBlock) (hwh:tv'.ownBlock=(Value.slice A n c).ownBlock\/∃k,tv'.ownBlock=some k/\W.heap.size<=k):
  ∃A6 c6,tv'=.slice A6 (gs++[g]).length c6/\Ee base B W' h0 h1 tu tv' ku kv (gs++[g]) xs/\Below base W W':=by
 have hA:=h.appT hown hg hwh;have e:(gs++[g]).length=gs.length+1:=aK;rcases hown.2 with⟨e0,h0⟩|⟨g9,cap,cur,e1,_⟩
 ·omega
 exact⟨some ⟨g9,0,none⟩,cap,by rw[e,e1],hA,(Ao _ _).grown hg h.bs (fun k hk=>(h.tags.lt k hk).1)⟩
theorem Qdo{w:World}{base n:Nat}{e:TypeId}{v:Value}{xs:List Value}(h:w.ownsRow base e 1 v n xs)(hx:xs.length=n)(hl:n<=1000):∃A c,v=.slice A n c/\B0 w A n xs/\∀g o,0<n->A=some ⟨g,o,none⟩->base<=g:=by
 have h':=h;rcases h.2 with⟨rfl,h0⟩|⟨g,cap,cur,rfl,hbg,hh,hnc,hcm,hcs,htk⟩
 ·subst h0;exact⟨none,0,rfl,⟨hx,ag _,fun hn=>absurd hn aJ⟩,fun g o hn _=>absurd hn aJ⟩
 refine⟨some ⟨g,0,none⟩,cap,rfl,⟨hx,by unfold maxLen;omega,fun hn=>⟨g,0,rfl,(h'.lt g rfl).2,fun j u hu=>?_⟩⟩,fun g' o _ e=>by injection e with e;injection e with e;subst e;exact hbg⟩;have:=h'.cells (g:=g) rfl j u hu;have e1:(⟨g,0,none⟩:Addr).add j=⟨g,0+j,none⟩:=bD;rwa [e1]at this
theorem Ee.done{base B:Nat}{W:World}{kind text:List UInt8}{tv kv:Value}{gs:List Nat}{xs:List (Nat × SV)}(h:Ee base B W kind text tv tv kv kv gs xs)(hg:gs.length<=1000)(hx:xs.length<=1000):Fl (fun c=>B<=c) W B (.mk kind text gs (xs.map (·.2))):=by
 obtain⟨A1,c1,rfl,r1,p1⟩:=Qdo h.tags (by simp[De]) hg;obtain⟨A2,c2,rfl,r2,p2⟩:=Qdo h.row (by simp[Dx]) hx;have hB:=h.hB;exact .mk kind text gs A1 A2 c1 c2 xs rfl h.lt (An _) h.c0 h.c1 h.c2 h.c3 r1 r2 hg hx (fun g o hn e=>by have:=p1 g o hn e;omega) (fun g o hn e=>by have:=p2 g o hn e;omega) fun x hx=>(h.kids x hx).mono fun c hc _=>by have:=hc.1;omega
theorem Ee.new{W:World}{T:TypeId}(h0 h1:Value):Ee (W.heap.size+1) W.heap.size (W.alloc (.cells #[h0,h1,.slice none 0 0,.slice none 0 0] T)) h0 h1 (.slice none 0 0) (.slice none 0 0) (.slice none 0 0) (.slice none 0 0) [] []:=
 ⟨by simp,by simp,by omega,Qe.new _ _ _,by simp[go_sem],by simp[go_sem],by simp[go_sem],by simp[go_sem],World.ownsRow_nil _ _ _ _,World.ownsRow_nil _ _ _ _,by simp⟩
section
attribute [local go_sem] Qoe Qnf Qmu Qk2 ByteArray.mk_append_mk
theorem Vs(c:UInt8)(p:List UInt8):∀(l:List (List UInt8)),Aw c (l++[p])=if l.length=0 then p else Aw c l++c::p
 |[]=>rfl
 |[q]=>by simp[Aw]
 |q::r::l=>by
  have ih:=Vs c p (r::l);rw[av,Cy c q aK,ih,Cy c q aK];simp
def Gm(l:List UInt8)(w:World)(e:Ending)(w':World):Prop:=e=.returned l/\Below w w w'
theorem Fl.open_{P:Nat->Prop}{w:World}{b:Nat}{kind text:List UInt8}{tags:List Nat}{kids:List SV}(h:Fl P w b (.mk kind text tags kids)):∃(A1 A2:Option Addr) (c1 c2:Nat) (xs:List (Nat × SV)),b<w.heap.size/\P b/\w.cell? (b,0)=kind/\w.cell? (b,1)=text /\
  w.cell? (b,2)=some (.slice A1 tags.length c1)/\w.cell? (b,3)=some (.slice A2 xs.length c2)/\B0 w A1 tags.length (De tags)/\B0 w A2 xs.length (Dx (xs.map (·.1)))/\tags.length<=1000/\xs.length<=1000/\kids=xs.map (·.2)/\∀x∈xs,Fl P w x.1 x.2:=by
 obtain⟨k,t,g,A1,A2,c1,c2,xs,hv,hb,hP,h0,h1,h2,h3,hr1,hr2,hl1,hl2,_,_,h⟩:=h;injection hv with e1 e2 e3 e4;subst e1 e2 e3 e4;exact⟨A1,A2,c1,c2,xs,hb,hP,h0,h1,h2,h3,hr1,hr2,hl1,hl2,rfl,h⟩
theorem Ze{xs:List (Nat × SV)}{i:Nat}(hi:i<xs.length):(Dx (xs.map (·.1)))[i]'(by simp[Dx];exact hi)=.pointer (some ⟨xs[i].1,0,none⟩):=by simp[Dx]
theorem Qe4{l:List Nat}{i:Nat}(hi:i<l.length):(De l)[i]'(by simp[De];exact hi)=.int .i64 (l[i]:Int):=by simp[De]
theorem Sv(P:Nat->Prop)(b:Nat)(c:UInt8)(tx:List UInt8)(w:World)(hc:c=110\/c=116\/c=102)(h:Fl P w b (.mk [c] tx [] [])):Calls prog 48 #[b] w (Gm tx w):=by
 obtain⟨_,_,_,_,_,hb,_,h0,h1,_⟩:=h.open_;have HR:=Aa h1;rcases hc with rfl|rfl|rfl<;>
 ·go_enter func48,ntmps48;go_wp2_with fail;exact kx
theorem Qi7(P:Nat->Prop)(b:Nat)(kr:List UInt8)(kids:List SV)(ks:List Vl)(w:World)(h:Fl P w b (.mk (91::kr) [] [] kids))(hkr:kr.length<=100)(hl:(Az (.mk 91 [] 0 ks)).length<=100000000)(hkl:kids.length=ks.length)
  (ih:∀(i:Nat) (hi:i<kids.length) (hi2:i<ks.length) b W,Fl P W b kids[i]->(Az ks[i]).length<=100000000->Calls prog 48 #[.pointer (some ⟨b,0,none⟩)] W (Gm (Az ks[i]) W)):
  Calls prog 48 #[.pointer (some ⟨b,0,none⟩)] w (Gm (Az (.mk 91 [] 0 ks)) w):=by
 obtain⟨A1,A2,c1,c2,xs,hb,_,h0,_,_,h3,_,hr2,_,hxl,rfl,hk⟩:=h.open_;have HF:=Aa (Ji ks);have hjl:(Aw 44 (ks.map Az)).length<=100000000:=by rw[Ji]at hl;simp at hl;omega
 rw[Bw]at hjl
 have Hjt:=Aa (fun i (hi:i<ks.length)=>(show Dh ((ks.take (i+1)).map Az)<=Dh (ks.map Az)/\(Az ks[i]).length+1+Dh ((ks.take i).map Az)=Dh ((ks.take (i+1)).map Az)from by
  refine⟨?_,?_⟩
  ·conv=>rhs;rw[<-List.take_append_drop (i+1) ks,az]
   exact kX
  rw[Cb ks i hi,az];simp[Dh];omega))
 have hkl2:xs.length=ks.length:=by simpa using hkl
 have Ih:=Aa ih;have Hr:=Aa hr2;have Hk:=Aa hk;have Hkl:=Aa hkl2;have Hlen:=Aa hjl;have hle:ks.length<=xs.length:=aH;clear hkl hkl2 ih hr2 hk h hl hjl;go_enter func48,ntmps48;go_wp2_with fail;go_loopw [4,3] (fun i s wr=>∃m:Nat,i=.int .i64 m/\m<=xs.length/\s=.string ⟨(91::Aw 44 ((ks.take m).map Az):List UInt8).toArray⟩/\Hid (Below w w wr)) (fun i _ _=>xs.length - (intOf i).toNat)
 case atStart=>exact⟨0,rfl,ag _,rfl,Ao _ _⟩
 case round=>
  obtain⟨m,rfl,hm,rfl,Hbr⟩:=hrel;have m1:(0:Int)<=(m:Int):=aH;have g3:=(Hbr.o.cell (p:=⟨b,3,none⟩) hb).trans h3;have hbw:b<wr.heap.size:=fK;have HJ:=Aa (Bw 44 ((ks.take m).map Az));by_cases hlt:m<xs.length
  ·have m2:(m:Int)<(xs.length:Int):=aH;have hltk:m<ks.length:=fk;obtain⟨b8,o8,rfl,hb8,hc8⟩:=(Hr.o.below Hbr.o).at_ hlt;rw[Ze hlt]at hc8;have HX:=Aa (fun W (hW:Below w w W)=>Ih.o m fE hltk xs[m].1 W fw (by obtain⟨q1,q2⟩:=Hjt.o m hltk;have:=Hlen.o;omega));obtain⟨q1,q2⟩:=Hjt.o m hltk;have hjm:(Aw 44 ((ks.take m).map Az)).length<=100000000:=by rw[HJ.o];have:=Hlen.o;omega
   have hpm:(Az ks[m]).length<=100000000:=fe
   have HP:=Aa (show Aw 44 ((ks.take (m+1)).map Az)=if m=0 then Az ks[m]else Aw 44 ((ks.take m).map Az)++44::Az ks[m]from by
    rw[Cb ks m hltk,az,List.map_singleton,Vs];have:((ks.take m).map Az).length=m:=aM;rw[this])
   have HP0:=@Aa (m=0->Aw 44 ((ks.take m).map Az)=[]) (by rintro rfl;rfl);clear q1 q2;generalize Az ks[m]=pm at *;generalize Aw 44 ((ks.take m).map Az)=jm at *;generalize xs[m].1=bm at *;by_cases h0m:m=0
   ·have t0:¬(0<m):=aH;have t1:¬((0:Int)<(m:Int)):=aH;have HP1:=Aa (HP.o.trans (if_pos h0m));have HP2:=Aa (HP0.o h0m);clear h0m HP HP0 HJ;go_wp2_with fail;refine(HX.o _ Hbr.o).mono ?_;rintro e w3 ⟨rfl,hb3⟩;have Hb3:=Aa (Hbr.o.trans (hb3.mono Hbr.o.size));clear hb3;go_wp2_with fail;go_roundw
    case rel=>exact⟨m+1,by go_num,by omega,by rw[HP1.o,HP2.o];rfl,Hb3.o⟩
    case measure=>simp[intOf];omega
   have t0:0<m:=aH;have t1:(0:Int)<(m:Int):=aH;have HP1:=Aa (HP.o.trans (if_neg h0m));clear h0m HP HP0 HJ;go_wp2_with fail;refine(HX.o _ Hbr.o).mono ?_;rintro e w3 ⟨rfl,hb3⟩;have Hb3:=Aa (Hbr.o.trans (hb3.mono Hbr.o.size));clear hb3;go_wp2_with fail;go_roundw
   case rel=>exact⟨m+1,by go_num,by omega,by rw[HP1.o]<;>simp,Hb3.o⟩
   case measure=>simp[intOf];omega
  ·have em:m=ks.length:=fk;have HE:=Aa (show Aw 44 ((ks.take m).map Az)=Aw 44 (ks.map Az)by rw[em,List.take_length]);have hjm:(Aw 44 ((ks.take m).map Az)).length<=100000000:=by rw[HE.o,Bw];exact Hlen.o
   clear em HJ;generalize Aw 44 ((ks.take m).map Az)=jm at *;go_wp2_with fail;go_ret;exact⟨by rw[HF.o,<-HE.o];rfl,Hbr.o⟩
theorem Qd6(P:Nat->Prop)(b:Nat)(kr:List UInt8)(kids:List SV)(o:Option Vl)(w:World)(h:Fl P w b (.mk (63::kr) [] [] kids))(hkr:kr.length<=100)(hl:(Az (.mk 63 [] 0 o.toList)).length<=100000000)(hkl:kids.length=o.toList.length)
  (ih:∀x,o=some x->∀b W y,y∈kids->Fl P W b y->Calls prog 48 #[.pointer (some ⟨b,0,none⟩)] W (Gm (Az x) W)):
  Calls prog 48 #[.pointer (some ⟨b,0,none⟩)] w (Gm (Az (.mk 63 [] 0 o.toList)) w):=by
 obtain⟨A1,A2,c1,c2,xs,hb,_,h0,_,_,h3,_,hr2,_,hxl,rfl,hk⟩:=h.open_;cases o with
 |none=>
  have hx0:xs=[]:=by simpa using hkl
  subst hx0;clear hk hr2 ih h;go_enter func48,ntmps48;go_wp2_with fail;exact kx
 |some x=>
  obtain⟨⟨bx,y⟩,rfl⟩:∃a,xs=[a]:=by
   cases xs with
   |nil=>simp at hkl
   |cons a l=>cases l with
    |nil=>exact⟨a,rfl⟩
    |cons b l=>simp at hkl
  have HF:=Aa (show Az (.mk 63 [] 0 [x])=43::Az x by simp[Az,D3,H4,Aw]);have hpl:(Az x).length<=100000000:=by have:=HF.o;simp only[Option.toList]at hl;rw[this]at hl;simp at hl;omega
  obtain⟨b8,o8,rfl,hb8,hc8⟩:=hr2.at_ (show 0<1 by decide);simp[Dx]at hc8;have HX:=Aa (ih x rfl bx w y aK (hk (bx,y) aK));simp only[List.length_singleton]at h3;clear hk hr2 ih h hkl;generalize Az x=px at *;go_enter func48,ntmps48;go_wp2_with fail;refine HX.o.mono ?_;rintro e w3 ⟨rfl,hb3⟩;have Hb3:=Aa hb3;clear hb3;go_wp2_with fail;go_ret;exact⟨by show _=Ending.returned (.string ⟨(Az (.mk 63 [] 0 [x])).toArray⟩);rw[HF.o];rfl,Hb3.o⟩
theorem Qjm(P:Nat->Prop)(b:Nat)(kr:List UInt8)(g:Nat)(w:World)(h:Fl P w b (.mk (64::kr) [69] [g] []))(hkr:kr.length<=100)(hg:g<=200):Calls prog 48 #[b] w (Gm (35::Ba g) w):=by
 obtain⟨A1,A2,c1,c2,xs,hb,_,h0,ht,h2,_,hr1,_⟩:=h.open_;obtain⟨b6,o6,rfl,hb6,hc6⟩:=hr1.at_ (show 0<1 by decide);simp[De]at hc6 h2;have Hd:=Aa (fun W=>Gj g g W (An _) aH);have hdl:=Da 2 g bU
 have HN:=Aa (show Calls prog 106 #[b] w (Gm (35::Ba g) w)from by
  clear h h0 hr1;go_enter func106,ntmps106;go_wp2_with fail;refine(Hd.o _).mono ?_;rintro e w3 ⟨rfl,hb3⟩;have Hb3:=Aa hb3;clear hb3;go_wp2_with fail;go_ret;exact⟨rfl,Hb3.o⟩)
 clear h ht h2 hr1 Hd hc6;go_enter func48,ntmps48;go_wp2_with fail;refine HN.o.mono ?_;rintro e w3 ⟨rfl,hb3⟩;have Hb3:=Aa hb3;clear hb3;go_wp2_with fail;go_ret;exact⟨rfl,Hb3.o⟩
theorem Qjn(P:Nat->Prop)(b:Nat)(kr:List UInt8)(g:Nat)(y:SV)(px:List UInt8)(w:World)(h:Fl P w b (.mk (64::kr) [85] [g] [y]))(hkr:kr.length<=100)(hg:g<=200)(hpl:px.length<=100000000)
  (ih:∀b W,Fl P W b y->Calls prog 48 #[.pointer (some ⟨b,0,none⟩)] W (Gm px W)):
  Calls prog 48 #[.pointer (some ⟨b,0,none⟩)] w (Gm (60::(Ba g++61::(px++[62]))) w):=by
 obtain⟨A1,A2,c1,c2,xs,hb,_,h0,ht,h2,h3,hr1,hr2,_,_,hkk,hk⟩:=h.open_;obtain⟨⟨bx,y'⟩,rfl⟩:∃a,xs=[a]:=by
  cases xs with
  |nil=>simp at hkk
  |cons a l=>cases l with
   |nil=>exact⟨a,rfl⟩
   |cons b l=>simp at hkk
 obtain rfl:y=y':=by simpa using hkk
 obtain⟨b6,o6,rfl,hb6,hc6⟩:=hr1.at_ (show 0<1 by decide);obtain⟨b8,o8,rfl,hb8,hc8⟩:=hr2.at_ (show 0<1 by decide);simp[De]at hc6 h2;simp[Dx]at hc8 h3;have Hd:=Aa (fun W=>Gj g g W (An _) aH);have hdl:=Da 2 g bU;have HX:=Aa (fun W (hW:Below w w W)=>ih bx W ((hk (bx,y) aK).after hW));have C6:=Aa hc6;have C8:=Aa hc8;have C2:=Aa h2;have C3:=Aa h3
 have HN:=Aa (show Calls prog 106 #[.pointer (some ⟨b,0,none⟩)] w (Gm (60::(Ba g++61::(px++[62]))) w)from by
  clear h h0 hr1 hr2 hk hkk ih;go_enter func106,ntmps106;go_wp2_with fail;clear h2 h3 hc6 hc8;refine Jd [11,12,13,14,15,16,17,18,19,20,21,22,23,24,25,26,27,28,2]
   (fun ix v W=>match ix with|0=>v=.pointer (some ⟨b,0,none⟩)|1=>v=.pointer (some ⟨b,0,none⟩)|2=>v=.pointer (some ⟨b,2,none⟩)|3=>v=.slice (some ⟨b6,o6,none⟩) 1 c1|4=>v=.pointer (some ⟨b6,o6,none⟩)|5=>v=(g:Int)|6=>v=(Ba g:List UInt8)|7=>v=(60::Ba g:List UInt8)|8=>v=.string ⟨(60::(Ba g++[61]):List UInt8).toArray⟩|9=>v=.pointer (some ⟨b,0,none⟩)|10=>v=.pointer (some ⟨b,0,none⟩)|11=>v=.pointer (some ⟨b,3,none⟩)|12=>v=.slice (some ⟨b8,o8,none⟩) 1 c2|13=>v=.pointer (some ⟨b8,o8,none⟩)|14=>v=bx|15=>v=(px:List UInt8)|16=>v=.string ⟨(60::(Ba g++61::px):List UInt8).toArray⟩|17=>v=.string ⟨(60::(Ba g++61::(px++[62])):List UInt8).toArray⟩|18=>v=.string ⟨(60::(Ba g++61::(px++[62])):List UInt8).toArray⟩|_=>True)
   (fun L U W=>Below w w W) ((Ao _ _).drew) ?_ ?_
  ·repeat (first|exact Ak.nil|(refine Ak.cons ?_ ?_;rotate_left))
   all_goals
    rintro L U W hL hpre HR Hdep K hK;have hB:=HR.o;have d2:=(hB.cell (p:=⟨b,2,none⟩) hb).trans C2.o;have d3:=(hB.cell (p:=⟨b,3,none⟩) hb).trans C3.o;have d6:=(hB.cell (p:=⟨b6,o6,none⟩) hb6).trans C6.o;have d8:=(hB.cell (p:=⟨b8,o8,none⟩) hb8).trans C8.o;first|(simp[Region.binds]at hpre;done)|simp[Region.binds]at hpre|clear hpre
   iterate 6
    ·exact hD
   ·exact iS
   ·exact hY
   ·exact hY
   iterate 6
    ·exact hD
   ·go_simp;refine(HX.o W hB).mono ?_;rintro e w3 ⟨rfl,hb3⟩;exact hK _ _ _ rfl Ac (hB.trans (hb3.mono hB.size)) aI
   ·exact hY
   ·exact hY
   ·exact hD
  rintro L U W hL hφ hR;have e18:U 18=.string ⟨(60::(Ba g++61::(px++[62])):List UInt8).toArray⟩:=hφ 18 aJ;simp only[e18];clear hφ;have Hb9:=Aa hR;clear hL hR;go_wp2_with fail;go_ret;exact⟨rfl,Hb9.o⟩)
 clear h ht h2 h3 hr1 hr2 Hd hc6 hc8 hk hkk ih HX C6 C8 C2 C3;go_enter func48,ntmps48;go_wp2_with fail;refine HN.o.mono ?_;rintro e w3 ⟨rfl,hb3⟩;have Hb3:=Aa hb3;clear hb3;go_wp2_with fail;go_ret;exact⟨rfl,Hb3.o⟩
theorem Qkb(P:Nat->Prop)(b:Nat)(kr:List UInt8)(kids:List SV)(ps:List (Fd × Vl))(w:World)(h:Fl P w b (.mk (64::kr) [82] (ps.map fun p=>p.1.tag) kids))(hkr:kr.length<=100)(hl:(Az (.mk 82 [] 0 (ps.map Dk))).length<=100000000)(hkl:kids.length=ps.length)
  (htg:∀p∈ps,p.1.tag<=200) (ih:∀(i:Nat) (hi:i<kids.length) (hi2:i<ps.length) b W,Fl P W b kids[i]->(Az ps[i].2).length<=100000000->Calls prog 48 #[.pointer (some ⟨b,0,none⟩)] W (Gm (Az ps[i].2) W)):
  Calls prog 48 #[.pointer (some ⟨b,0,none⟩)] w (Gm (Az (.mk 82 [] 0 (ps.map Dk))) w):=by
 obtain⟨A1,A2,c1,c2,xs,hb,_,h0,ht,h2,h3,hr1,hr2,_,hxl,rfl,hk⟩:=h.open_;have HF:=Aa (Kl ps);have hjl:(Aw 44 (ps.map fun p=>Az (Dk p))).length<=100000000:=by rw[Kl]at hl;simp at hl;omega
 rw[Bw]at hjl
 have Hjt:=Aa (fun i (hi:i<ps.length)=>(show Dh ((ps.take (i+1)).map fun p=>Az (Dk p))<=Dh (ps.map fun p=>Az (Dk p))/\(Az (Dk ps[i])).length+1+Dh ((ps.take i).map fun p=>Az (Dk p))=Dh ((ps.take (i+1)).map fun p=>Az (Dk p))from by
  refine⟨?_,?_⟩
  ·conv=>rhs;rw[<-List.take_append_drop (i+1) ps,az]
   exact kX
  rw[Cb ps i hi,az];simp[Dh];omega))
 have hkl2:xs.length=ps.length:=by simpa using hkl
 have Ih:=Aa ih;have Hr1:=Aa hr1;have Hr:=Aa hr2;have Hk:=Aa hk;have Hkl:=Aa hkl2;have Hlen:=Aa hjl;have Htg:=Aa htg;have C2:=Aa (show w.cell? ⟨b,2,none⟩=some (.slice A1 ps.length c1)by simpa using h2);have hle:ps.length<=xs.length:=aH
 have HN:=Aa (show Calls prog 106 #[.pointer (some ⟨b,0,none⟩)] w (Gm (Az (.mk 82 [] 0 (ps.map Dk))) w)from by
  clear hkl hkl2 ih hr1 hr2 hk h hl hjl h0 h2 htg;go_enter func106,ntmps106;go_wp2_with fail;go_loopw [4,3] (fun i s wr=>∃m:Nat,i=.int .i64 m/\m<=xs.length/\s=.string ⟨(123::Aw 44 ((ps.take m).map fun p=>Az (Dk p)):List UInt8).toArray⟩/\Hid (Below w w wr)) (fun i _ _=>xs.length - (intOf i).toNat)
  case atStart=>exact⟨0,rfl,ag _,rfl,Ao _ _⟩
  case round=>
   obtain⟨m,rfl,hm,rfl,Hbr⟩:=hrel;have m1:(0:Int)<=(m:Int):=aH;have g3:=(Hbr.o.cell (p:=⟨b,3,none⟩) hb).trans h3;have hbw:b<wr.heap.size:=fK;have HJ:=Aa (Bw 44 ((ps.take m).map fun p=>Az (Dk p)));by_cases hlt:m<xs.length
   ·have m2:(m:Int)<(xs.length:Int):=aH;have hltk:m<ps.length:=fk;have m2':(m:Int)<(ps.length:Int):=aH;obtain⟨b8,o8,rfl,hb8,hc8⟩:=(Hr.o.below Hbr.o).at_ hlt;rw[Ze hlt]at hc8;obtain⟨b6,o6,e6,hb6,hc6⟩:=(Hr1.o.below Hbr.o).at_ (show m<(ps.map fun p=>p.1.tag).length by simpa using hltk);rw[Qe4 (by simpa using hltk),List.getElem_map]at hc6;subst e6;obtain⟨q1,q2⟩:=Hjt.o m hltk;have hfl:=Ja ps[m];have hjm:(Aw 44 ((ps.take m).map fun p=>Az (Dk p))).length<=100000000:=by rw[HJ.o];have:=Hlen.o;omega
    have hpm:(Az ps[m].2).length<=100000000:=fe;have HX:=Aa (fun W (hW:Below w w W)=>Ih.o m fE hltk xs[m].1 W fw hpm);have hgt:=Htg.o _ (ae hltk);have Hd:=Aa (fun W=>Gj ps[m].1.tag ps[m].1.tag W (An _) aH);have hdl:=Da 2 ps[m].1.tag bU
    have HP:=Aa (show Aw 44 ((ps.take (m+1)).map fun p=>Az (Dk p))=(if m=0 then[]else Aw 44 ((ps.take m).map fun p=>Az (Dk p))++[44])++(Ba ps[m].1.tag++61::Az ps[m].2)from by
     rw[Cb ps m hltk,az,List.map_singleton,Vs];have:((ps.take m).map fun p=>Az (Dk p)).length=m:=aM;rw[this,show Az (Dk ps[m])=Ba ps[m].1.tag++61::Az ps[m].2 by simp[Dk,Az,D3,H4,Aw]];by_cases h0:m=0
     ·rw[if_pos h0,if_pos h0];rfl
     rw[if_neg h0,if_neg h0];simp)
    have HP0:=@Aa (m=0->Aw 44 ((ps.take m).map fun p=>Az (Dk p))=[]) (by rintro rfl;rfl);clear q1 q2 hfl;generalize Az ps[m].2=pm at *;generalize Aw 44 ((ps.take m).map fun p=>Az (Dk p))=jm at *;generalize xs[m].1=bm at *;generalize ps[m].1.tag=gm at *;obtain⟨acc,hacc⟩:∃acc:List UInt8,acc=if m=0 then 123::jm else 123::(jm++[44]):=⟨_,rfl⟩
    have hal:acc.length<=100000002:=by rw[hacc];split<;>simp<;>omega
    have HPn:=Aa (show (123::Aw 44 ((ps.take (m+1)).map fun p=>Az (Dk p)):List UInt8)=acc++(Ba gm++61::pm)from by
     rw[HP.o,hacc];by_cases h0:m=0
     ·rw[if_pos h0,if_pos h0,HP0.o h0];rfl
     rw[if_neg h0,if_neg h0];simp)
    have C8:=Aa hc8;have C6:=Aa hc6;have hzr:=Hbr.o.size;by_cases h0m:m=0
    ·have t0:¬(0<m):=aH;have t1:¬((0:Int)<(m:Int)):=aH;have hA:=hacc.trans (if_pos h0m);have HA:=Aa hA;clear h0m HP HP0 HJ hacc hA hc8 hc6;go_wp2_with fail;rw[<-HA.o];refine rgE [52,53,54,55,56,57,58,59,60,61,62,63,64,65,66,67,68,69,70,71,3]
      (fun ix v W=>match ix with|0=>v=(acc:List UInt8)|1=>v=.pointer (some ⟨b,0,none⟩)|2=>v=.pointer (some ⟨b,0,none⟩)|3=>v=.pointer (some ⟨b,2,none⟩)|4=>v=.slice (some ⟨b6,o6,none⟩) ps.length c1|5=>v=(m:Int)|6=>v=.pointer (some ⟨b6,o6+m,none⟩)|7=>v=(gm:Int)|8=>v=(Ba gm:List UInt8)|9=>v=(acc++Ba gm:List UInt8)|10=>v=.string ⟨(acc++(Ba gm++[61]):List UInt8).toArray⟩|11=>v=.pointer (some ⟨b,0,none⟩)|12=>v=.pointer (some ⟨b,0,none⟩)|13=>v=.pointer (some ⟨b,3,none⟩)|14=>v=.slice (some ⟨b8,o8,none⟩) xs.length c2|15=>v=(m:Int)|16=>v=.pointer (some ⟨b8,o8+m,none⟩)|17=>v=bm|18=>v=(pm:List UInt8)|19=>v=.string ⟨(acc++(Ba gm++61::pm):List UInt8).toArray⟩|20=>v=.string ⟨(acc++(Ba gm++61::pm):List UInt8).toArray⟩|_=>True)
      (fun L U W=>Below wr wr W) ((Ao _ _).drew) ?_ ?_
     ·exact hM
     rintro L U W hL hφ hR;have e20:U 20=.string ⟨(acc++(Ba gm++61::pm):List UInt8).toArray⟩:=hφ 20 aJ;simp only[e20];clear hφ;have Hb9:=Aa (Hbr.o.trans (hR.mono hzr));clear hL hR;go_wp2_with fail;go_roundw
     case rel=>exact⟨m+1,by go_num,by omega,by rw[HPn.o],Hb9.o⟩
     case measure=>simp[intOf];omega
    have t0:0<m:=aH;have t1:(0:Int)<(m:Int):=aH;have hA:=hacc.trans (if_neg h0m);have HA:=Aa hA;clear h0m HP HP0 HJ hacc hA hc8 hc6;go_wp2_with fail;have HA2:=@Aa ((123::(jm++[44]):List UInt8)=acc) HA.o.symm;first|rw[HA2.o]|(simp only[av];rw[HA2.o])
    refine rgE [52,53,54,55,56,57,58,59,60,61,62,63,64,65,66,67,68,69,70,71,3]
     (fun ix v W=>match ix with|0=>v=(acc:List UInt8)|1=>v=.pointer (some ⟨b,0,none⟩)|2=>v=.pointer (some ⟨b,0,none⟩)|3=>v=.pointer (some ⟨b,2,none⟩)|4=>v=.slice (some ⟨b6,o6,none⟩) ps.length c1|5=>v=(m:Int)|6=>v=.pointer (some ⟨b6,o6+m,none⟩)|7=>v=(gm:Int)|8=>v=(Ba gm:List UInt8)|9=>v=(acc++Ba gm:List UInt8)|10=>v=.string ⟨(acc++(Ba gm++[61]):List UInt8).toArray⟩|11=>v=.pointer (some ⟨b,0,none⟩)|12=>v=.pointer (some ⟨b,0,none⟩)|13=>v=.pointer (some ⟨b,3,none⟩)|14=>v=.slice (some ⟨b8,o8,none⟩) xs.length c2|15=>v=(m:Int)|16=>v=.pointer (some ⟨b8,o8+m,none⟩)|17=>v=bm|18=>v=(pm:List UInt8)|19=>v=.string ⟨(acc++(Ba gm++61::pm):List UInt8).toArray⟩|20=>v=.string ⟨(acc++(Ba gm++61::pm):List UInt8).toArray⟩|_=>True)
     (fun L U W=>Below wr wr W) ((Ao _ _).drew) ?_ ?_
    ·exact hM
    rintro L U W hL hφ hR;have e20:U 20=.string ⟨(acc++(Ba gm++61::pm):List UInt8).toArray⟩:=hφ 20 aJ;simp only[e20];clear hφ;have Hb9:=Aa (Hbr.o.trans (hR.mono hzr));clear hL hR;go_wp2_with fail;go_roundw
    case rel=>exact⟨m+1,by go_num,by omega,by rw[HPn.o],Hb9.o⟩
    case measure=>simp[intOf];omega
   ·have em:m=ps.length:=fk;have HE:=Aa (show Aw 44 ((ps.take m).map fun p=>Az (Dk p))=Aw 44 (ps.map fun p=>Az (Dk p))by rw[em,List.take_length]);have hjm:(Aw 44 ((ps.take m).map fun p=>Az (Dk p))).length<=100000000:=by rw[HE.o,Bw];exact Hlen.o
    clear em HJ;generalize Aw 44 ((ps.take m).map fun p=>Az (Dk p))=jm at *;go_wp2_with fail;go_ret;exact⟨by rw[HF.o,<-HE.o];rfl,Hbr.o⟩)
 clear h ht h2 h3 hr1 hr2 hk hkl hkl2 ih Ih Hr1 Hr Hk hl hjl htg;go_enter func48,ntmps48;go_wp2_with fail;refine HN.o.mono ?_;rintro e w3 ⟨rfl,hb3⟩;have Hb3:=Aa hb3;clear hb3;go_wp2_with fail;go_ret;exact⟨rfl,Hb3.o⟩
theorem Yw{S:List Ty}(hT:∀t∈S,Fi t)(P:Nat->Prop):∀(d:Nat) (k:Kd) (v:Vl),Ha S d k v->Ck k->∀(b:Nat) (w:World),Fl P w b (Cd S k v)->(Az v).length<=100000000->Calls prog 48 #[b] w (Gm (Az v) w):=by
 intro d;induction d with
 |zero=>intro k v h;cases h
 |succ d ih=>
  intro k v h hk b w hw hl;have hkl:=hk.2.2;cases h with
  |@n _ _ m hs hb h=>
   rw[Yk,show Ax k=[110]by unfold Ax Bu;rw[hs,hb];rfl]at hw;rw[show Az (.mk 110 (Ba m) 0 [])=Ba m by simp[Az,D3,H4]];exact Sv P b 110 _ w (.inl rfl) hw
  |@t _ _ s hs hb h=>
   rw[Tt,show Ax k=[116]by unfold Ax Bu;rw[hs,hb];rfl]at hw;rw[show Az (.mk 116 s 0 [])=39::(s++[39])by simp[Az,D3,H4]];exact Sv P b 116 _ w (.inr (.inl rfl)) hw
  |@f _ _ x hs hb=>
   rw[Tz,show Ax k=[102]by unfold Ax Bu;rw[hs,hb];rfl]at hw;rw[show Az (.mk 102 (if x then Ev else M5) 0 [])=(if x then Ev else M5)by simp[Az,D3,H4]];exact Sv P b 102 _ w (.inr (.inr rfl)) hw
  |@lst _ _ r ks hs hl2 h=>
   have e:Ax k=91::(r++Bu k):=dK;rw[Qn,e]at hw;rw[e]at hkl;refine Qi7 P b _ _ ks w hw cZ hl aK fun i hi hi2 b W hW hl3=>?_;rw[List.getElem_map]at hW;exact ih _ _ (h _ (ae hi2)) (Js hk).1 b W hW hl3
  |@non _ _ r hs=>
   have e:Ax k=63::(r++Bu k):=dK;rw[Kq,e]at hw;rw[e]at hkl;exact Qd6 P b _ _ none w hw cZ hl rfl aK
  |@som _ _ r x hs h=>
   have e:Ax k=63::(r++Bu k):=dK;rw[Kq,e]at hw;rw[e]at hkl;have hl3:(Az x).length<=100000000:=dP;refine Qd6 P b _ _ (some x) w hw cZ hl rfl fun y hy b W z hz hW=>?_;injection hy with hy;subst hy;simp at hz;subst hz;exact ih _ _ h (Js hk).1 b W hW hl3
  |@enm _ _ t f hs hb ht h9 hf=>
   have e:Ax k=64::(k.name++[59]):=dn;rw[Qq,e]at hw;rw[e]at hkl;rw[show Az (.mk 69 [] f.tag [])=35::Ba f.tag by simp[Az,D3,H4]];exact Qjm P b _ f.tag w hw cZ ((hT t (Cf ht).1).2.2.1.1 f (At hf).2).2.1
  |@uni _ _ t f x hs hb ht h5 hf h=>
   have e:Ax k=64::(k.name++[59]):=dn;rw[Pf,e,Ez ht hf]at hw;rw[e]at hkl;have hkf:=K0 hT ht dH (At hf).2;have e2:Az (.mk 85 [] f.tag [x])=60::(Ba f.tag++61::(Az x++[62])):=by simp[Az,D3,H4,Aw]
   rw[e2]at hl ⊢;have hl3:(Az x).length<=100000000:=by simp at hl;omega
   exact Qjn P b _ f.tag _ (Az x) w hw cZ hkf.2 hl3 fun b W hW=>ih _ _ h hkf.1 b W hW hl3
  |@rcd _ _ t fs hs hb ht h2 hf h hn hp=>
   have e:Ax k=64::(k.name++[59]):=dn;rw[Qs,e]at hw;rw[e]at hkl;have hkf:=fun p (hp:p∈fs)=>K0 hT ht cW (At (hf p hp)).2;refine Qkb P b _ _ fs w hw cZ hl aK (fun p hp=>(hkf p hp).2) fun i hi hi2 b W hW hl3=>?_;have hm:=ae hi2;rw[List.getElem_map,Ez ht (hf _ hm)]at hW;exact ih _ _ (h _ hm) (hkf _ hm).1 b W hW hl3
theorem Zn{S:List Ty}(hT:∀t∈S,Fi t)(P:Nat->Prop):∀(d:Nat) (k:Kd) (v:Vl),Ha S d k v->Ck k->∀(b:Nat) (w:World),Fl P w b (Cd S k v)->(Az v).length<=1000000->Calls prog 48 #[b] w (Gm (Az v) w):=
 fun d k v h1 h2 b w h3 h4=>Yw hT P d k v h1 h2 b w h3 (ad h4 aJ)
def Ql(s d x:List UInt8)(w:World)(e:Ending)(w':World):Prop:=Below w w w'/\match Bm s d with
 |none=>∃v q,e=.returned (.tuple #[v,.pointer q,.bool false])
 |some y=>match Gs y.1 y.2 x with
  |none=>∃v q,e=.returned (.tuple #[v,.pointer q,.bool false])
  |some v=>∃xv xs b,e=.returned (.tuple #[xv,.pointer (some ⟨b,0,none⟩),.bool true])/\Ad xs=y.1/\Gb w' xv xs/\Fl (fun c=>w.heap.size<=c) w' b (Cd y.1 y.2 v)
theorem Qfe(p:UInt8->Bool):∀(s:List UInt8) (i:Nat) (hi:i<s.length),(i<(s.takeWhile p).length->p s[i]=true)/\(i=(s.takeWhile p).length->p s[i]=false)
 |[],i,hi=>by simp at hi
 |x::s,0,hi=>by
  by_cases h:p x=true
  ·simp[h]
  simp[h]
 |x::s,i+1,hi=>by
  have ih:=Qfe p s i eZ;by_cases h:p x=true
  ·rw[List.takeWhile_cons_of_pos h];simpa using ih
  rw[List.takeWhile_cons_of_neg h];simp
theorem Tl(p:UInt8->Bool)(s:List UInt8):s.take (s.takeWhile p).length=s.takeWhile p/\s.drop (s.takeWhile p).length=s.dropWhile p/\(s.takeWhile p).length<=s.length:=by
 have e:s.takeWhile p++s.dropWhile p=s:=List.takeWhile_append_dropWhile;have h1:(s.takeWhile p++s.dropWhile p).take (s.takeWhile p).length=s.takeWhile p:=List.take_left;have h2:(s.takeWhile p++s.dropWhile p).drop (s.takeWhile p).length=s.dropWhile p:=List.drop_left;rw[e]at h1 h2;have h3:=congrArg List.length e;rw[ah]at h3;exact⟨h1,h2,by omega⟩
theorem V0(s:List UInt8)(w:World)(hs:s.length<=4000000):
  Calls prog 157 #[s] w fun e w'=>e=.returned (.int .i64 ((s.takeWhile Bl).length:Int))/\w=w':=by
 have HT:=Aa (Qfe Bl s);have hle:=(Tl Bl s).2.2;generalize hn:(s.takeWhile Bl).length=n at *;clear hn;go_enter func157,ntmps157;go_wp2_with fail;go_loop [3] (fun i=>∃k:Nat,i=.int .i64 k/\k<=n) (fun i=>n - (intOf i).toNat)
 case atStart=>exact⟨0,rfl,ag _⟩
 case round=>
  obtain⟨k,rfl,hk⟩:=hrel;by_cases hlt:k<s.length
  ·obtain⟨q1,q2⟩:=HT.o k hlt;have hc:=(s[k]).toNat_lt;by_cases hkn:k<n
   ·obtain⟨h3,h4⟩:=Dv.1 (q1 hkn);clear q1 q2;go_wp2_with fail;go_round
    case rel=>exact⟨k+1,by go_num,by omega⟩
    case measure=>simp[intOf];omega
   have hd:=q2 aH;have hkn2:k=n:=aH;have h2:(s[k]).toNat<48\/(48<=(s[k]).toNat/\57<(s[k]).toNat):=by
    by_cases h3:48<=(s[k]).toNat
    ·refine .inr ⟨h3,?_⟩;by_cases h4:57<(s[k]).toNat
     ·exact h4
     have:=Dv.2 ⟨h3,by omega⟩;rw[hd]at this;cases this
    exact .inl aH
   clear q1 q2 hd;subst hkn2;rcases h2 with h2|⟨h2,h3⟩
   ·go_wp2_with fail;exact jJ
   go_wp2_with fail;exact jJ
  ·have hkn2:k=n:=aH;subst hkn2;go_wp2_with fail;exact jJ
def Bx(S:List Ty)(k:Kd)(o:Option (Vl × List UInt8))(w:World)(e:Ending)(w':World):Prop:=
 (match o with
  |some x=>∃b,e=.returned (.tuple #[.pointer (some ⟨b,0,none⟩),x.2,.bool true])/\Fl (fun c=>w.heap.size<=c) w' b (Cd S k x.1)
  |none=>∃(q:Option Addr) (r:ByteArray),e=.returned (.tuple #[.pointer q,.string r,.bool false]))/\Below w w w'
theorem Bx.no{S:List Ty}{k:Kd}{o:Option (Vl × List UInt8)}{w w':World}{e:Ending}(ho:o=none){q:Option Addr}{r:ByteArray}(he:e=.returned (.tuple #[.pointer q,.string r,.bool false]))(hb:Below w w w'):Bx S k o w e w':=by
 rw[ho];exact⟨⟨q,r,he⟩,hb⟩
theorem Fl.leaf{P:Nat->Prop}{w:World}{kind text:List UInt8}{T:TypeId}(hP:P w.heap.size):Fl P (w.alloc (.cells #[kind,text,.slice none 0 0,.slice none 0 0] T)) w.heap.size (.mk kind text [] []):=
 .mk kind text [] none none 0 0 [] rfl aK hP aK aK aK aK ⟨rfl,ag _,fun h=>absurd h aK⟩ ⟨rfl,ag _,fun h=>absurd h aK⟩ aK aK (fun _ _ h=>absurd h aK) (fun _ _ h=>absurd h aK) aK
theorem Qk6(s:List UInt8):Sm s=if Ef (s.takeWhile Bl) 999999 then(Cx (s.takeWhile Bl)).map (fun n=>(n,s.dropWhile Bl))else none:=by
 unfold Sm Ef;cases h:Cx (s.takeWhile Bl)with
 |none=>rfl
 |some n=>simp[(Cl.1 h).1]
theorem Qi6(S:List Ty)(xv:Value)(hxv:xv.oneCell'=true)(s:List UInt8)(k:Kd)(hs0:k.signs=[])(hb:k.base=[110])(w:World)(hs:s.length<=4000000)(q:Option (Vl × List UInt8))(hq:q=match Sm s with|some (n,r)=>some (.mk 110 (Ba n) 0 [],r)|none=>none):
  Calls prog 104 #[.agg #[xv],s,.string ⟨#[110]⟩] w (Bx S k q w):=by
 have hkd:Ax k=[110]:=ct;have HQ:=Aa (hq.trans (by rw[Qk6]));obtain⟨e1,e2,hle⟩:=Tl Bl s;have Hd:=Aa (fun W=>V0 s W hs);have Hn:=Aa (fun W=>D1 (s.takeWhile Bl) 999999 W aH aJ);have HD:=Aa (fun m (h:Cx (s.takeWhile Bl)=some m)=>(Cl.1 h).2);have E1:=Aa e1;have E2:=Aa e2;have k1:((s.takeWhile Bl).length:Int)<=(s.length:Int):=aH;generalize (s.takeWhile Bl).length=n at *;generalize s.takeWhile Bl=tw at *;generalize s.dropWhile Bl=dw at *;have k2:(0:Int)<=(n:Int):=aH;have k3:((n:Int)).toNat=n:=aH;have hn8:n<=4000000:=aH;clear e1 e2 hs0 hb hq;go_enter func104,ntmps104;go_wp2_with fail;refine(Hd.o _).mono ?_;rintro e w1 ⟨rfl,rfl⟩;go_wp2_with fail;rw[E1.o];refine(Hn.o _).mono ?_;rintro e w2 ⟨m,hm,rfl,hdm,hb2⟩;have Hb2:=Aa (((Ao w.heap.size w).alloc (An _) (.cells #[xv] 79)).trans (hb2.mono aK));have Hdm:=Aa hdm;have hz2:=Hb2.o.size;have Hok:=Aa (show Ef tw 999999=(Cx tw).isSome by unfold Ef;cases h:Cx tw with|none=>rfl|some m=>simp[(Cl.1 h).1]);generalize Ef tw 999999=ok at *;clear hb2 hdm;go_wp2_with fail;refine Jd [26,27,28,29,30,31,32,33,34,35,6,7,8]
  (fun ix v W=>match ix with|0=>v=.string ⟨#[110]⟩|1=>v=(s:List UInt8)|2=>v=(n:Int)|3=>v=(tw:List UInt8)|4=>v=.agg #[.string ⟨#[110]⟩,(tw:List UInt8),.slice none 0 0,.slice none 0 0]|5=>∃c,v=.pointer (some ⟨c,0,none⟩)|6=>v=(s:List UInt8)|7=>v=(n:Int)|8=>v=(dw:List UInt8)|9=>v=.bool ok|10=>∃c,v=.pointer (some ⟨c,0,none⟩)|11=>v=(dw:List UInt8)|12=>v=.bool ok|_=>True)
  (fun L U W=>(L 5=false->Below w2 w2 W)/\(L 5=true->∃W7,W=W7.alloc (.cells #[.string ⟨#[110]⟩,(tw:List UInt8),.slice none 0 0,.slice none 0 0] 148)/\Below w2 w2 W7/\U 5=.pointer (some ⟨W7.heap.size,0,none⟩))/\(L 10=true->U 10=U 5)) (⟨fun _=>(Ao _ _).drew,fun h=>Bool.noConfusion h,fun h=>Bool.noConfusion h⟩) ?_ ?_
 ·repeat (first|exact Ak.nil|(refine Ak.cons ?_ ?_;rotate_left))
  all_goals
   rintro L U W hL hpre HR Hdep K hK;first|(simp[Region.binds]at hpre;done)|simp[Region.binds]at hpre|clear hpre
  iterate 3
   ·exact hD
  ·go_simp;rw[E1.o];exact lh
  ·exact hD
  ·obtain⟨R1,R2,R3⟩:=HR.o;have hB:=R1 hL;have h10:L 10=false:=Bb Hdep.o 10 5 rfl hL;go_simp;exact hK W.heap.size _ _ ⟨_,rfl⟩ Ac ⟨fun h=>by simp at h,fun _=>⟨W,rfl,hB,rfl⟩,fun h=>absurd (h10.symm.trans aR) aJ⟩ aI
  iterate 2
   ·exact hD
  ·exact iM
  ·exact hD
  ·exact im
  iterate 2
   ·exact hD
 rintro L U W hL hφ hR;have hφ10:U 10=U 5:=hR.2.2 (hL 10 aJ);have e11:U 11=(dw:List UInt8):=hφ 11 aJ;have e12:U 12=.bool ok:=hφ 12 aJ;clear hφ;obtain⟨_,h2,h3⟩:=hR;obtain⟨W7,rfl,hb7,u5⟩:=h2 (hL 5 aJ);rw[u5]at hφ10;clear hL h2;simp only[hφ10,e11,e12];clear hφ10;go_wp2_with fail;refine aF (v:=.tuple #[.pointer (some ⟨W7.heap.size,0,none⟩),dw,.bool ok]) (by simp[results,results104,go_sem]) rfl ?_;have hz7:=hb7.size;have Hb7:=((Hb2.o.trans (hb7.mono hz2)).alloc (ad hz2 hz7) (.cells #[.string ⟨#[110]⟩,tw,.slice none 0 0,.slice none 0 0] 148))
 have HQ:=HQ.o;cases ok with
 |false=>exact Bx.no HQ rfl Hb7
 |true=>
  cases hd:Cx tw with
  |none=>rw[hd]at HQ;have:=Hok.o;rw[hd]at this;cases this
  |some m'=>
   rw[hd]at HQ;simp only[if_true,Option.map_some]at HQ;rw[HQ];refine⟨⟨W7.heap.size,rfl,?_⟩,Hb7⟩;rw[Yk,hkd,<-HD.o m' hd];exact li
def P9(c:UInt8):Bool:=c != 39
def N9(s:List UInt8):Nat:=min (((s.drop 1).takeWhile P9).length+2) s.length
theorem Qlo(r:List UInt8):(r.takeWhile P9=r/\∀x∈r,x≠39)\/∃q,r=r.takeWhile P9++39::q:=by
 induction r with
 |nil=>exact .inl ⟨rfl,by simp⟩
 |cons x r ih=>
  by_cases hx:P9 x=true
  ·rw[List.takeWhile_cons_of_pos hx];rcases ih with⟨h1,h2⟩|⟨q,h⟩
   ·refine .inl ⟨by rw[h1],fun y hy=>?_⟩;rcases aA.1 hy with rfl|hy
    ·simpa [P9]using hx
    exact h2 y hy
   exact .inr ⟨q,by rw[av,<-h]⟩
  rw[List.takeWhile_cons_of_neg hx];have:x=39:=by simpa [P9]using hx
  subst this;exact .inr ⟨r,rfl⟩
theorem Qm6(c:UInt8)(r:List UInt8):(Gr ((c::r).take (N9 (c::r)))=false/\Pd (c::r)=none) \/
  ∃x q,Pd (c::r)=some (x,q)/\Gr ((c::r).take (N9 (c::r)))=true/\(c::r).take (N9 (c::r))=39::(x++[39])/\(c::r).drop (N9 (c::r))=q:=by
 rcases Qlo r with⟨h1,h2⟩|⟨q,h⟩
 ·left;have e:N9 (c::r)=(c::r).length:=by unfold N9;rw[show (c::r).drop 1=r from rfl,h1];simp
  rw[e,List.take_length];have hd:Av 39 (r.dropWhile Co)=none:=by
   cases hc:r.dropWhile Co with
   |nil=>rfl
   |cons x z=>
    have hx:x∈r:=(List.dropWhile_sublist _).subset (by rw[hc];simp);simp[Av,h2 x hx]
  constructor
  ·unfold Gr;by_cases h0:r=[]
   ·subst h0;simp
   have hl:(c::r).getLast?=some (r.getLast h0):=by rw[List.getLast?_cons,List.getLast?_eq_some_getLast h0];rfl
   have:=h2 _ (List.getLast_mem h0);rw[hl];simp[this]
  unfold Pd;by_cases hc:c=39
  ·subst hc;rw[show Av 39 (39::r)=some r by simp[Av]];simp only;rw[hd]
  simp[Av,hc]
 generalize htw:r.takeWhile P9=tw at *;have hno:∀x∈tw,P9 x=true:=fun x hx=>by rw[<-htw]at hx;exact(List.all_eq_true.1 (List.all_takeWhile)) x hx
 have e:N9 (c::r)=tw.length+2:=by
  unfold N9;rw[show (c::r).drop 1=r from rfl,htw];have:(c::r).length=tw.length+1+q.length+1:=by rw[h];simp;omega
  omega
 have et:(c::r).take (tw.length+2)=c::(tw++[39]):=by
  rw[List.take_succ_cons,h,List.take_append,au aH];simp
 have ed:(c::r).drop (tw.length+2)=q:=by
  rw[List.drop_succ_cons,h,List.drop_append,List.drop_of_length_le aH];simp
 have eq:Gr (c::(tw++[39]))=(decide (c=39) && Dt tw):=by
  unfold Gr;have hl:(c::(tw++[39])).getLast?=some 39:=by rw[<-av,List.getLast?_append];rfl
  rw[hl];simp
 rw[e,et,ed,eq];by_cases hc:c=39
 ·subst hc;by_cases hall:tw.all Co=true
  ·have ha:=List.all_eq_true.1 hall;have t1:r.takeWhile Co=tw:=by rw[h,List.takeWhile_append_of_pos ha];simp[Co,J3,Bl]
   have t2:r.dropWhile Co=39::q:=by rw[h,List.dropWhile_append_of_pos ha];simp[Co,J3,Bl]
   by_cases h12:tw.length<=12
   ·right;exact⟨tw,q,by simp[Pd,Av,t1,t2,h12],by simp[Dt,h12,hall],rfl,rfl⟩
   left;exact⟨by simp[Dt,h12],by simp[Pd,Av,t1,t2,h12]⟩
  left;refine⟨by simp[Dt,hall],?_⟩;have:Av 39 (r.dropWhile Co)=none:=by
   rw[h];clear htw h e et ed eq;induction tw with
   |nil=>simp at hall
   |cons x tw ih=>
    by_cases hx:Co x=true
    ·rw[av,List.dropWhile_cons_of_pos hx];exact ih (fun y hy=>hno y gk) (by simpa [hx]using hall)
    rw[av,List.dropWhile_cons_of_neg hx];have:=hno x aK;simp[P9]at this;simp[Av,this]
  unfold Pd;rw[show Av 39 (39::r)=some r by simp[Av]];simp only;rw[this]
 left;exact⟨by simp[hc],by simp[Pd,Av,hc]⟩
theorem Qiy(S:List Ty)(xv:Value)(hxv:xv.oneCell'=true)(s:List UInt8)(k:Kd)(hs0:k.signs=[])(hb:k.base=[116])(w:World)(hs:s.length<=4000000)(hne:s≠[])(q:Option (Vl × List UInt8))(hq:q=match Pd s with|some (x,r)=>some (.mk 116 x 0 [],r)|none=>none):
  Calls prog 104 #[.agg #[xv],s,.string ⟨#[116]⟩] w (Bx S k q w):=by
 have hkd:Ax k=[116]:=ct;have HQ:=Aa hq
 have Hor:=Aa (show (Gr (s.take (N9 s))=false/\Pd s=none)\/∃x q,Pd s=some (x,q)/\Gr (s.take (N9 s))=true/\s.take (N9 s)=39::(x++[39])/\s.drop (N9 s)=q by
  cases s with
  |nil=>exact absurd rfl hne
  |cons c r=>exact Qm6 c r)
 have hz:1<=s.length:=by cases s with|nil=>exact absurd rfl hne|cons c r=>simp
 have HT:=Aa (fun i (hi:i+1<s.length)=>(show (i<((s.drop 1).takeWhile P9).length->s[i+1]≠39)/\(i=((s.drop 1).takeWhile P9).length->s[i+1]=39)from by
  have h:=Qfe P9 (s.drop 1) i aM;simp only[List.getElem_drop,Nat.add_comm 1 i]at h;exact⟨fun h1=>by simpa [P9]using h.1 h1,fun h1=>by simpa [P9]using h.2 h1⟩))
 have hle:((s.drop 1).takeWhile P9).length+1<=s.length:=by
  have:=(Tl P9 (s.drop 1)).2.2;rw[List.length_drop]at this;omega
 have hqd:N9 s=min (((s.drop 1).takeWhile P9).length+2) s.length:=rfl;have Hn:=Aa (fun W=>Zh (s.take (N9 s)) W aM);generalize ((s.drop 1).takeWhile P9).length=m at *;have k1:((N9 s:Nat):Int)<=(s.length:Int):=aH;have Hmin:Hid ((if ((m:Int)+1+1)<=(s.length:Int)then((m:Int)+1+1)else(s.length:Int))=((N9 s:Nat):Int)):=by
  unfold Hid;split<;>omega
 have k3:((N9 s:Nat):Int).toNat=N9 s:=aH;have k2:(0:Int)<=((N9 s:Nat):Int):=aH;generalize N9 s=n at *;generalize hnok:Gr (s.take n)=ok at *;have HI:∃tw dw,tw=s.take n/\dw=s.drop n:=⟨_,_,rfl,rfl⟩
 obtain⟨tw,dw,e1,e2⟩:=HI;rw[<-e1,<-e2]at Hor;rw[<-e1]at Hn hnok;have E1:=Aa e1.symm;have E2:=Aa e2.symm;have Hok:=Aa hnok;clear e1 e2 hs0 hb hq hqd hne hnok;go_enter func104,ntmps104;go_wp2_with fail;go_loop [9] (fun i=>∃j:Nat,i=.int .i64 ((j:Int)+1)/\j<=m) (fun i=>m+1 - (intOf i).toNat)
 case atStart=>exact⟨0,rfl,ag _⟩
 case round=>
  obtain⟨j,rfl,hj⟩:=hrel;by_cases hlt:j+1<s.length
  ·obtain⟨q1,q2⟩:=HT.o j hlt;have hc:=(s[j+1]).toNat_lt;by_cases hjm:j<m
   ·have h3:=q1 hjm;have h4:((s[j+1]).toNat:Int)≠39:=fun h=>h3 (by apply UInt8.toNat_inj.1;simpa using(by exact_mod_cast h:(s[j+1]).toNat=39));clear q1 q2 h3;go_wp2_with fail;go_round
    case rel=>exact⟨j+1,by go_num,by omega⟩
    case measure=>simp[intOf];omega
   have hjm2:j=m:=aH;have h4:((s[j+1]).toNat:Int)=39:=by rw[q2 hjm2];rfl
   clear q1 q2;subst hjm2;clear hjm HT hj hle;have e9:(j:Int)+1+1=(n:Int):=by rw[<-Hmin.o,if_pos aH]
   go_wp2_with fail;refine Jd [55,56,57,58,59,60,61,62,63,64,65,66,67,6,7,8]
    (fun ix v W=>match ix with|0=>v=.string ⟨#[116]⟩|1=>v=(s:List UInt8)|2=>v=(n:Int)|3=>v=.string ⟨(tw:List UInt8).toArray⟩|4=>v=.agg #[.string ⟨#[116]⟩,.string ⟨(tw:List UInt8).toArray⟩,.slice none 0 0,.slice none 0 0]|5=>∃c,v=.pointer (some ⟨c,0,none⟩)|6=>v=(s:List UInt8)|7=>v=(n:Int)|8=>v=.string ⟨(dw:List UInt8).toArray⟩|9=>v=(s:List UInt8)|10=>v=(n:Int)|11=>v=.string ⟨(tw:List UInt8).toArray⟩|12=>v=.bool ok|13=>∃c,v=.pointer (some ⟨c,0,none⟩)|14=>v=.string ⟨(dw:List UInt8).toArray⟩|15=>v=.bool ok|_=>True)
    (fun L U W=>(L 5=false->Below w w W)/\(L 5=true->∃W7,W=W7.alloc (.cells #[.string ⟨#[116]⟩,.string ⟨(tw:List UInt8).toArray⟩,.slice none 0 0,.slice none 0 0] 148)/\Below w w W7/\U 5=.pointer (some ⟨W7.heap.size,0,none⟩))/\(L 13=true->U 13=U 5)) (⟨fun _=>((Ao w.heap.size w).alloc (An _) _).drew,fun h=>Bool.noConfusion h,fun h=>Bool.noConfusion h⟩) ?_ ?_
   ·exact hZ
   rintro L U W hL hφ hR;have hφ10:U 13=U 5:=hR.2.2 (hL 13 aJ);have e11:U 14=.string ⟨(dw:List UInt8).toArray⟩:=hφ 14 aJ;have e12:U 15=.bool ok:=hφ 15 aJ;clear hφ;obtain⟨_,h2,h3⟩:=hR;obtain⟨W7,rfl,hb7,u5⟩:=h2 (hL 5 aJ);rw[u5]at hφ10;clear hL h2;simp only[hφ10,e11,e12];clear hφ10;go_wp2_with fail;refine aF (v:=.tuple #[.pointer (some ⟨W7.heap.size,0,none⟩),.string ⟨dw.toArray⟩,.bool ok]) (by simp[results,results104,go_sem]) rfl ?_;have hz7:=hb7.size;have Hb7:=(hb7.alloc aH (.cells #[.string ⟨#[116]⟩,.string ⟨tw.toArray⟩,.slice none 0 0,.slice none 0 0] 148))
   have HQ:=HQ.o;rcases Hor.o with⟨o1,o2⟩|⟨x,q',o1,o2,o3,o4⟩
   ·exact jI
   rw[o1]at HQ;subst o2;rw[HQ];subst o4;refine⟨⟨W7.heap.size,rfl,?_⟩,Hb7⟩;exact lj
  ·have hjm2:j=m:=aH;subst hjm2;have hj3:(j:Int)<=5000000:=aH;have hj4:(0:Int)<=(j:Int):=aH;have hj5:¬((j:Int)+1+1<=(s.length:Int)):=aH;clear HT hj;have e9:(s.length:Int)=(n:Int):=by rw[<-Hmin.o,if_neg aH]
   go_wp2_with fail;refine Jd [55,56,57,58,59,60,61,62,63,64,65,66,67,6,7,8]
    (fun ix v W=>match ix with|0=>v=.string ⟨#[116]⟩|1=>v=(s:List UInt8)|2=>v=(n:Int)|3=>v=.string ⟨(tw:List UInt8).toArray⟩|4=>v=.agg #[.string ⟨#[116]⟩,.string ⟨(tw:List UInt8).toArray⟩,.slice none 0 0,.slice none 0 0]|5=>∃c,v=.pointer (some ⟨c,0,none⟩)|6=>v=(s:List UInt8)|7=>v=(n:Int)|8=>v=.string ⟨(dw:List UInt8).toArray⟩|9=>v=(s:List UInt8)|10=>v=(n:Int)|11=>v=.string ⟨(tw:List UInt8).toArray⟩|12=>v=.bool ok|13=>∃c,v=.pointer (some ⟨c,0,none⟩)|14=>v=.string ⟨(dw:List UInt8).toArray⟩|15=>v=.bool ok|_=>True)
    (fun L U W=>(L 5=false->Below w w W)/\(L 5=true->∃W7,W=W7.alloc (.cells #[.string ⟨#[116]⟩,.string ⟨(tw:List UInt8).toArray⟩,.slice none 0 0,.slice none 0 0] 148)/\Below w w W7/\U 5=.pointer (some ⟨W7.heap.size,0,none⟩))/\(L 13=true->U 13=U 5)) (⟨fun _=>((Ao w.heap.size w).alloc (An _) _).drew,fun h=>Bool.noConfusion h,fun h=>Bool.noConfusion h⟩) ?_ ?_
   ·exact hZ
   rintro L U W hL hφ hR;have hφ10:U 13=U 5:=hR.2.2 (hL 13 aJ);have e11:U 14=.string ⟨(dw:List UInt8).toArray⟩:=hφ 14 aJ;have e12:U 15=.bool ok:=hφ 15 aJ;clear hφ;obtain⟨_,h2,h3⟩:=hR;obtain⟨W7,rfl,hb7,u5⟩:=h2 (hL 5 aJ);rw[u5]at hφ10;clear hL h2;simp only[hφ10,e11,e12];clear hφ10;go_wp2_with fail;refine aF (v:=.tuple #[.pointer (some ⟨W7.heap.size,0,none⟩),.string ⟨dw.toArray⟩,.bool ok]) (by simp[results,results104,go_sem]) rfl ?_;have hz7:=hb7.size;have Hb7:=(hb7.alloc aH (.cells #[.string ⟨#[116]⟩,.string ⟨tw.toArray⟩,.slice none 0 0,.slice none 0 0] 148))
   have HQ:=HQ.o;rcases Hor.o with⟨o1,o2⟩|⟨x,q',o1,o2,o3,o4⟩
   ·exact jI
   rw[o1]at HQ;subst o2;rw[HQ];subst o4;refine⟨⟨W7.heap.size,rfl,?_⟩,Hb7⟩;exact lj
end
end Go.Proofs.YtmmhmlmfhpfgbaaGreatDoor
