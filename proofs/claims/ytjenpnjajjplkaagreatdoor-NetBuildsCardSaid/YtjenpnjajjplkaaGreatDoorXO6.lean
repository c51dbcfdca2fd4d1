/-
  I12 I13 I14 I19 Sy30 Sy31 Sy32 Sy33 I32 I33 NB1 NB2 NB3 NB4 I21 I41 I26 NB5: parts of a proof, joined by program.
-/
import Derived.Test.YtjenpnjajjplkaaGreatDoorXO5
import Derived.Test.YtjenpnjajjplkaaGreatDoorXO4
set_option linter.all false
set_option linter.unusedVariables false
set_option linter.unusedSimpArgs false
set_option linter.deprecated false
namespace Go.Sy.YtjenpnjajjplkaaGreatDoor
open Go.Proofs
theorem Wr (d:Nat) (h:d<10):(UInt8.ofNat (48+d)).toNat=48+d:=UInt8.toNat_ofNat_of_lt' (by show _<256;omega)
theorem Aoy (d:Nat) (h:d<10):Dd (UInt8.ofNat (48+d))=true:=by
 rw[Dd,Wr d h,decide_eq_true z_,decide_eq_true z_];rfl
theorem Wq (n:Nat):(∀ c∈(revDigs n).reverse,Dd c=true)∧Hs (revDigs n).reverse=n:=by
 induction n using Nat.strongRecOn with
 | ind n ih =>
  rw[Kv]
  have h10:n % 10<10:=Nat.mod_lt _ y_
  by_cases h:n<10
  ·rw[if_pos h,List.nil_append]
   refine⟨fun c hc=>?_,?_⟩
   ·simp only[List.mem_singleton]at hc
    rw[hc];exact Aoy _ h10
   ·have:=I7 [] (UInt8.ofNat (48+n % 10))
    rw[List.nil_append]at this
    rw[this,Wr _ h10]
    have h0:Hs []=0:=rfl
    rw[h0];omega
  ·rw[if_neg h]
   obtain ⟨h1,h2⟩:=ih (n / 10) z_
   refine⟨fun c hc=>?_,?_⟩
   ·rcases List.mem_append.1 hc with hc | hc
    ·exact h1 c hc
    ·simp only[List.mem_singleton]at hc
     rw[hc];exact Aoy _ h10
   ·rw[I7,h2,Wr _ h10];omega
theorem Aqw (n:Nat):(revDigs n).reverse≠[]:=by
 have:=H3 n
 intro h
 have h2:=congrArg List.length h
 rw[List.length_reverse]at h2
 simp at h2
 rw[h2]at this;simp at this
theorem Aak (n:Nat) (c:UInt8) (h:(revDigs n).reverse.head? = some c):Dd c=true:=by
 refine(Wq n).1 c ?_
 cases hd:(revDigs n).reverse with
 | nil=>rw[hd]at h;cases h
 | cons x l=>rw[hd]at h;simp at h;rw[h];simp
theorem Ace {c:UInt8} (h:Dd c=true) (d:UInt8) (hd:d.toNat<48∨57<d.toNat):c≠d:=by
 intro e;subst e
 simp only[Dd,Bool.and_eq_true,decide_eq_true_eq]at h
 omega
theorem Xv (n:Nat):Sh (mkT (revDigs n).reverse)=false:=by
 rw[Sh,Bv]
 cases hh:(revDigs n).reverse.head? with
 | none=>rfl
 | some c =>
  have:=Ace (Aak n c hh) 45 (.inl y_)
  simp[this]
theorem Ak8 (n:Nat):H6 (Aw (n:Int))=(revDigs n).reverse:=by
 rw[Dq,H6,if_neg (by rw[Xv];simp),Bv]
theorem Lf {n lo hi:Int} (h0:0≤n) (h1:n<1000000000) (hlo:lo≤n) (hhi:n≤hi):numR (Aw n) lo hi=(n,true):=by
 obtain ⟨m,rfl⟩:∃ m:Nat,n=m:=⟨n.toNat,by omega⟩
 have hd:=Ak8 m
 have hs:=Cb 9 m z_
 have hp:=H3 m
 obtain ⟨ha,hv⟩:=Wq m
 have hall:(H6 (Aw (m:Int))).all Dd=true:=by rw[hd,List.all_eq_true];exact ha
 have hnv:numV (Aw (m:Int))=m:=by rw[numV,if_neg (by rw[Dq,Xv];simp),hd,hv]
 rw[numR,if_neg (by rw[hd,List.length_reverse];omega),if_neg (by rw[hall];simp),hnv,if_neg z_,if_pos qe]
theorem Ajb {s:ByteArray} {lo hi v:Int} (h:numR s lo hi=(v,true)):lo≤v∧v≤hi:=by
 unfold numR at h
 repeat' split at h
 all_goals first | (simp at h;done) | (simp only[Prod.mk.injEq,and_true]at h;omega)
theorem Es {s:ByteArray} {lo hi:Int} (h:(numR s lo hi).2=true):lo≤(numR s lo hi).1∧(numR s lo hi).1≤hi:=Ajb (v:=(numR s lo hi).1) (by rw[← h])
theorem Zl (D:List UInt8):∀ j,j≤D.length→Hb (mkT D) j=Hs (D.take j)
 | 0,_=>by simp[Hb,Hs]
 | j+1,h=>by
  have hlt:j<D.length:=h
  rw[Hb,Zl D j z_,List.take_succ_eq_append_getElem hlt,I7]
  have e:Ai (mkT D) j=D[j]:=by
   rw[Hx (by rw[Bv];exact hlt)]
   simp[mkT]
  rw[e]
theorem Sa (n:Nat) (most:Int) (h:n<1000):smallT (mkT (revDigs n).reverse) most=((n:Int),decide ((n:Int)≤most)):=by
 obtain ⟨ha,hv⟩:=Wq n
 have hp:=H3 n
 have h3:=H4 2 n
 have hsz:(mkT (revDigs n).reverse).size=(revDigs n).length:=by rw[Bp,List.length_reverse]
 have e3:n / 10 ^ (2+1)=0:=by show n / 1000=0;omega
 rw[e3]at h3
 have hval:Hb (mkT (revDigs n).reverse) (revDigs n).length=n:=by
  rw[Zl _ _ (by rw[List.length_reverse];exact Nat.le_refl _),List.take_of_length_le (by rw[List.length_reverse];exact Nat.le_refl _),hv]
 have hdg:Mp (mkT (revDigs n).reverse)=true:=Qf fun i hi=>by
  have hi2:i<(revDigs n).reverse.length:=by rw[hsz]at hi;rw[List.length_reverse];exact hi
  rw[Hx (by rw[Bv];exact hi2)]
  refine ha _ ?_
  have:(mkT (revDigs n).reverse).data.toList[i]'(by rw[Bv];exact hi2)=(revDigs n).reverse[i]:=by simp[mkT]
  rw[this]
  exact List.getElem_mem _
 have hlead:¬ (1<(mkT (revDigs n).reverse).size∧(Ai (mkT (revDigs n).reverse) 0).toNat=48):=by
  rintro ⟨h1,h2⟩
  rw[hsz]at h1
  have hl0:0<(revDigs n).reverse.length:=by rw[List.length_reverse];omega
  rw[Hx (by rw[Bv];exact hl0)]at h2
  have e:(mkT (revDigs n).reverse).data.toList[0]'(by rw[Bv];exact hl0)=(revDigs n).reverse[0]:=by simp[mkT]
  rw[e,List.getElem_reverse,Kw]at h2
  obtain ⟨k,hk⟩:∃ k,(revDigs n).length=k+2:=⟨(revDigs n).length-2,by omega⟩
  have a1:=H4 k n
  have a2:=H4 (k+1) n
  rw[hk]at a1 a2
  have e2:(revDigs n).length-1-0=k+1:=by omega
  rw[e2]at h2
  have b1:0<n / 10 ^ (k+1):=a1.1 z_
  have b2:¬ 0<n / 10 ^ (k+1+1):=fun hh=>by have:=a2.2 hh;omega
  rw[Nat.pow_succ 10 (k+1),← Nat.div_div_eq_div_mul]at b2
  rw[Wr _ (Nat.mod_lt _ y_)]at h2
  omega
 rw[smallT,if_neg,hsz,hval]
 rintro (hh | hh | hh | hh)
 ·rw[hsz]at hh;omega
 ·rw[hsz]at hh;omega
 ·exact hlead hh
 ·rw[hdg]at hh;cases hh
theorem Id (d:UInt8):∀ (p cur r:List UInt8),d∉p→By d cur (p++d::r)=mkT (cur++p)::By d [] r
 | [],cur,r,_=>by rw[List.nil_append,By,if_pos rfl,List.append_nil]
 | c::p,cur,r,h=>by
  simp only[List.mem_cons,not_or]at h
  rw[List.cons_append,By,if_neg (Ne.symm h.1),Id d p _ r h.2]
  simp
theorem Acc (n:Nat) (d:UInt8) (hd:d.toNat<48∨57<d.toNat):d∉(revDigs n).reverse:=fun hm=>Ace ((Wq n).1 d hm) d hd rfl
theorem Ap6 (a b:Nat) (ha:a<4294967296) (hb:b<4294967296):bits .or .u32 (a:Int) (b:Int)=((a ||| b:Nat):Int):=by
 have x1:(BitVec.ofInt 32 (a:Int)).toNat=a:=by rw[BitVec.ofInt_natCast,BitVec.toNat_ofNat];exact Nat.mod_eq_of_lt ha
 have x2:(BitVec.ofInt 32 (b:Int)).toNat=b:=by rw[BitVec.ofInt_natCast,BitVec.toNat_ofNat];exact Nat.mod_eq_of_lt hb
 have key:(BitVec.ofInt 32 (a:Int) ||| BitVec.ofInt 32 (b:Int)).toNat=a ||| b:=by rw[BitVec.toNat_or,x1,x2]
 show IntKind.u32.wrap (((BitVec.ofInt 32 (a:Int) ||| BitVec.ofInt 32 (b:Int)).toNat:Nat):Int)=_
 rw[key,IntKind.wrap_u32]
 have:a ||| b<2 ^ 32:=Nat.or_lt_two_pow z_ z_
 omega
theorem Lm (a o:Nat) (ha:a<16777216) (ho:o<256):bits .or .u32 (IntKind.u32.wrap ((a:Int) * 2 ^ 8)) (IntKind.u32.wrap (o:Int))=((a * 256+o:Nat):Int):=by
 have e1:IntKind.u32.wrap ((a:Int) * 2 ^ 8)=((a * 256:Nat):Int):=by
  rw[IntKind.wrap_u32];omega
 have e2:IntKind.u32.wrap (o:Int)=(o:Int):=by rw[IntKind.wrap_u32];omega
 rw[e1,e2,Ap6 _ _ z_ z_]
 have h:=Nat.two_pow_add_eq_or_of_lt (i:=8) (b:=o) z_ a
 rw[Nat.mul_comm a 256]
 exact congrArg _ h.symm
def Xo (a i:Nat):ByteArray:=mkT (revDigs (octN a i)).reverse
theorem Aiv (a:Nat):Bd 46 (B6 (a:Int))=[Xo a 0,Xo a 1,Xo a 2,Xo a 3]:=by
 have h:=fun i=>Acc (octN a i) 46 (.inl y_)
 have e:Ue a 4=(revDigs (octN a 0)).reverse++46::((revDigs (octN a 1)).reverse++46::((revDigs (octN a 2)).reverse++46::(revDigs (octN a 3)).reverse)):=by
  simp[Ue]
 rw[B6,Int.toNat_natCast,I2,Bv,e,Id 46 _ _ _ (h 0),Id 46 _ _ _ (h 1),Id 46 _ _ _ (h 2),Ie 46 _ _ (h 3)]
 rfl
theorem Aj5 (a i:Nat):smallT (Xo a i) 255=((octN a i:Int),true):=by
 have h:octN a i<256:=Nat.mod_lt _ y_
 rw[Xo,Sa _ _ z_,decide_eq_true z_]
theorem Us (a:Nat) (ha:a<4294967296):Bo (B6 (a:Int))=((a:Int),true):=by
 have h:=fun i=>Aj5 a i
 have hb:∀ i,Le (Xo a i)=true:=fun i=>by rw[Le,h]
 have e0:octN a 0<256:=Nat.mod_lt _ y_
 have e1:octN a 1<256:=Nat.mod_lt _ y_
 have e2:octN a 2<256:=Nat.mod_lt _ y_
 have e3:octN a 3<256:=Nat.mod_lt _ y_
 have hv:O3 [Xo a 0,Xo a 1,Xo a 2,Xo a 3]=(a:Int):=by
  simp only[O3,List.foldl_cons,List.foldl_nil,h]
  have s0:=Lm 0 (octN a 0) z_ e0
  rw[show ((0:Nat):Int)=0 from rfl]at s0
  rw[s0,Lm _ _ z_ e1,Lm _ _ z_ e2,Lm _ _ z_ e3]
  have d0:octN a 0=a / 16777216 % 256:=rfl
  have d1:octN a 1=a / 65536 % 256:=rfl
  have d2:octN a 2=a / 256 % 256:=rfl
  have d3:octN a 3=a / 1 % 256:=rfl
  omega
 rw[Bo,Aiv,if_pos ⟨rfl,by simp[hb]⟩,hv]
theorem Ajq (a:Nat) (d:UInt8) (h46:d≠46) (hd:d.toNat<48∨57<d.toNat):d∉(B6 (a:Int)).data.toList:=by
 have h:=fun i=>Acc (octN a i) d hd
 rw[B6,Int.toNat_natCast,Bv]
 simp only[Ue]
 intro hm
 simp[h46]at hm
 have g:=fun i hi=>h i (List.mem_reverse.2 hi)
 rcases hm with hm | hm | hm | hm
 ·exact g 0 hm
 ·exact g 1 hm
 ·exact g 2 hm
 ·exact g 3 hm
theorem Aer (d:UInt8):∀ (p r:List UInt8),d∉p→Lib.indexByte (p++d::r) d=p.length
 | [],r,_=>by simp[Lib.indexByte]
 | c::p,r,h=>by
  simp only[List.mem_cons,not_or]at h
  have ih:=Aer d p r h.2
  rw[List.cons_append,Lib.indexByte.eq_def]
  dsimp only
  rw[if_neg (by simpa using Ne.symm h.1),ih,if_neg (by first | (simp;done) | (simp;omega))]
  simp
theorem Ao0 (d:UInt8) (p r:List UInt8) (h:d∉p):cutT d (mkT (p++d::r))=(mkT p,mkT r,true):=by
 have hi:=Aer d p r h
 rw[cutT,Bv,hi,if_pos z_,I6,hi,Int.toNat_natCast,Cr,Cr,Bp]
 have e1:((p++d::r).take p.length).drop 0=p:=by simp
 have e2:((p++d::r).take (p++d::r).length).drop (p.length+1)=r:=by
  rw[List.take_length,← List.drop_drop];simp
 rw[e1,e2]
theorem Adc (a:Nat) (bits:Int) (ha:a<4294967296) (h0:0≤bits) (h32:bits≤32):prefixR (C1 (a:Int) bits)=(((a:Int),bits),true):=by
 obtain ⟨n,rfl⟩:∃ n:Nat,bits=n:=⟨bits.toNat,by omega⟩
 have hc:=Ao0 47 (B6 (a:Int)).data.toList (revDigs n).reverse (Ajq a 47 y_ (.inl y_))
 rw[Cv]at hc
 have e:C1 (a:Int) (n:Int)=mkT ((B6 (a:Int)).data.toList++47::(revDigs n).reverse):=by
  rw[C1,if_pos ⟨h0,h32⟩,Int.toNat_natCast,List.append_assoc];rfl
 have hs:=Sa n 32 z_
 have hr:=Us a ha
 rw[prefixR,e,hc]
 dsimp only
 rw[hr,hs,decide_eq_true z_]
 simp
theorem W5 (d:UInt8):∀ (r:List (List UInt8)) (x:List UInt8),d∉x→(∀ y∈r,d∉y)→By d [] (Lib.join (x::r) [d])=(x::r).map mkT
 | [],x,h,_=>by rw[Lib.join_one,Ie d _ _ h];rfl
 | y::r,x,h,h2=>by
  have ih:=W5 d r y (h2 y qe) (fun z hz=>h2 z (by simp[hz]))
  have e:Lib.join (x::y::r) [d]=x++d::Lib.join (y::r) [d]:=by
   rw[Lib.join_cons,Lib.join_cons,Lib.joinTail,Lib.joinTail]
   simp
  rw[e,Id d x [] _ h,ih]
  rfl
theorem Vf (tx:Int→ByteArray) (l:List Int) (hne:l≠[]) (h:∀ x∈l,(44:UInt8)∉(tx x).data.toList):Bd 44 (Jk (l.map tx) comma)=l.map tx:=by
 cases l with
 | nil=>exact absurd rfl hne
 | cons x l =>
  have e:(Jk ((x::l).map tx) comma).data.toList=Lib.join ((tx x).data.toList::l.map (fun y=>(tx y).data.toList)) [44]:=by
   simp only[Jk,List.map_cons,List.map_map]
   rfl
  rw[I2,e,W5 44 _ _ (h x qe) (fun y hy=>by
   obtain ⟨z,hz,rfl⟩:=List.mem_map.1 hy
   exact h z (by simp[hz]))]
  simp[Cv]
def Ach (l:List Int):Prop:=l.Pairwise (·<·)
theorem Sn (one:ByteArray→Int × Bool) (tx:Int→ByteArray):∀ (l out:List Int),(∀ x∈l,one (tx x)=(x,true))→Ach (out++l)→(out++l).length≤16→B5 one out (l.map tx)=(out++l,true)
 | [],out,_,_,_=>by rw[List.map_nil,B5,List.append_nil]
 | x::l,out,h1,h2,h3=>by
  have hx:=h1 x qe
  rw[List.map_cons,B5,hx,if_neg,Sn one tx l (out++[x]) (fun y hy=>h1 y (by simp[hy])) (by rw[List.append_assoc];exact h2) (by rw[List.append_assoc];exact h3),List.append_assoc]
  ·rfl
  ·rintro (hh | hh | ⟨y,hy,hyx⟩)
   ·cases hh
   ·simp only[List.length_append,List.length_cons]at h3;omega
   ·have hm:=List.mem_of_getLast? hy
    have:=(List.pairwise_append.1 h2).2.2 y hm x qe
    dsimp only at hyx
    omega
theorem Im (one:ByteArray→Int × Bool):∀ (ps:List ByteArray) (out r:List Int),B5 one out ps=(r,true)→Ach out→out.length≤16 →
  Ach r∧r.length≤16∧r.length=out.length+ps.length∧∀ x∈r,x∈out∨∃ p∈ps,one p=(x,true)
 | [],out,r,h,h1,h2=>by
  rw[B5]at h
  simp only[Prod.mk.injEq,and_true]at h
  subst h
  exact⟨h1,h2,by simp,fun x hx=>.inl hx⟩
 | p::ps,out,r,h,h1,h2=>by
  rw[B5]at h
  split at h
  ·simp at h
  ·rename_i hn
   simp only[not_or]at hn
   obtain ⟨n1,n2,n3⟩:=hn
   have hr:Ach (out++[(one p).1]):=by
    refine List.pairwise_append.2 ⟨h1,List.pairwise_singleton _ _,fun y hy z hz=>?_⟩
    simp only[List.mem_singleton]at hz
    subst hz
    cases hl:out.getLast? with
    | none=>rw[List.getLast?_eq_none_iff]at hl;subst hl;cases hy
    | some w =>
     have hlt:¬ (one p).1≤w:=fun hh=>n3 ⟨w,hl,hh⟩
     obtain ⟨c,rfl⟩:∃ c,out=c++[w]:=by
      have hne:out≠[]:=fun e=>by rw[e]at hy;cases hy
      refine⟨out.dropLast,?_⟩
      have:=List.dropLast_concat_getLast hne
      rw[List.getLast?_eq_some_getLast hne]at hl
      simp only[Option.some.injEq]at hl
      rw[← hl];exact this.symm
     rcases List.mem_append.1 hy with hy | hy
     ·have:=(List.pairwise_append.1 h1).2.2 y hy w qe
      omega
     ·simp only[List.mem_singleton]at hy
      omega
   obtain ⟨a,b,c,d⟩:=Im one ps _ r h hr (by rw[List.length_append];simp;omega)
   refine⟨a,b,by rw[c];simp;omega,fun x hx=>?_⟩
   rcases d x hx with hx | ⟨q,hq,e⟩
   ·rcases List.mem_append.1 hx with hx | hx
    ·exact .inl hx
    ·simp only[List.mem_singleton]at hx
     refine .inr ⟨p,by simp,?_⟩
     rw[hx]
     have:(one p).2=true:=by simpa using n1
     rw[← this]
   ·exact .inr ⟨q,by simp[hq],e⟩
theorem Zs {l:List Int} (h:∀ i (hi:i+1<l.length),l[i]<l[i+1]):Ach l:=by
 unfold Ach
 rw[List.pairwise_iff_getElem]
 intro i j hi hj hij
 induction j with
 | zero=>omega
 | succ j ih =>
  by_cases e:i=j
  ·subst e;exact h i hj
  ·have:=ih z_ z_
   have:=h j hj
   omega
theorem Q4:∀ (l:List (Bool × Int)),(∀ x∈l,x.2≠0)→Bc l=0→∀ x∈l,x.1=false
 | [],_,_,x,hx=>by cases hx
 | (b,e)::l,h,h0,x,hx=>by
  rw[Bc]at h0
  cases b with
  | true=>rw[if_pos rfl]at h0;exact absurd h0 (h (true,e) qe)
  | false =>
   rw[if_neg qe]at h0
   rcases List.mem_cons.1 hx with hx | hx
   ·rw[hx]
   ·exact Q4 l (fun y hy=>h y (by simp[hy])) h0 x hx
theorem Aqx:∀ k:Fin 16,digI (Dk k.1)=(k.1:Int)∧Dk k.1≠58:=by decide +kernel
theorem Afa (d:Nat) (h:d<16):digI (Dk d)=(d:Int):=(Aqx ⟨d,h⟩).1
theorem Add (m:Nat) (hm:m<281474976710656):macR (A1 (m:Int))=((m:Int),true):=by
 have hb:∀ j,Bg m j<256:=fun j=>Nat.mod_lt _ y_
 have h1:∀ j,digI (Dk (Bg m j / 16))=((Bg m j / 16:Nat):Int):=fun j=>Afa _ (by have:=hb j;omega)
 have h2:∀ j,digI (Dk (Bg m j % 16))=((Bg m j % 16:Nat):Int):=fun j=>Afa _ z_
 have h0:=hb 0;have h3:=hb 1;have h4:=hb 2;have h5:=hb 3;have h6:=hb 4;have h7:=hb 5
 have e:A1 (m:Int)=mkT [Dk (Bg m 0 / 16),Dk (Bg m 0 % 16),58,Dk (Bg m 1 / 16),Dk (Bg m 1 % 16),58,Dk (Bg m 2 / 16),Dk (Bg m 2 % 16),58,
   Dk (Bg m 3 / 16),Dk (Bg m 3 % 16),58,Dk (Bg m 4 / 16),Dk (Bg m 4 % 16),58,Dk (Bg m 5 / 16),Dk (Bg m 5 % 16)]:=by
  rw[A1,Int.toNat_natCast]
  simp[Qn]
 have b0:Ai (A1 (m:Int)) 0=Dk (Bg m 0 / 16):=by rw[e];rfl
 have b1:Ai (A1 (m:Int)) 1=Dk (Bg m 0 % 16):=by rw[e];rfl
 have b2:Ai (A1 (m:Int)) 2=58:=by rw[e];rfl
 have b3:Ai (A1 (m:Int)) 3=Dk (Bg m 1 / 16):=by rw[e];rfl
 have b4:Ai (A1 (m:Int)) 4=Dk (Bg m 1 % 16):=by rw[e];rfl
 have b5:Ai (A1 (m:Int)) 5=58:=by rw[e];rfl
 have b6:Ai (A1 (m:Int)) 6=Dk (Bg m 2 / 16):=by rw[e];rfl
 have b7:Ai (A1 (m:Int)) 7=Dk (Bg m 2 % 16):=by rw[e];rfl
 have b8:Ai (A1 (m:Int)) 8=58:=by rw[e];rfl
 have b9:Ai (A1 (m:Int)) 9=Dk (Bg m 3 / 16):=by rw[e];rfl
 have b10:Ai (A1 (m:Int)) 10=Dk (Bg m 3 % 16):=by rw[e];rfl
 have b11:Ai (A1 (m:Int)) 11=58:=by rw[e];rfl
 have b12:Ai (A1 (m:Int)) 12=Dk (Bg m 4 / 16):=by rw[e];rfl
 have b13:Ai (A1 (m:Int)) 13=Dk (Bg m 4 % 16):=by rw[e];rfl
 have b14:Ai (A1 (m:Int)) 14=58:=by rw[e];rfl
 have b15:Ai (A1 (m:Int)) 15=Dk (Bg m 5 / 16):=by rw[e];rfl
 have b16:Ai (A1 (m:Int)) 16=Dk (Bg m 5 % 16):=by rw[e];rfl
 have a0:Hh (A1 (m:Int)) 0=true:=by
  show (decide (digI (Ai (A1 (m:Int)) 0)≤15) && decide (digI (Ai (A1 (m:Int)) 1)≤15) && (decide (5≤0) || decide ((Ai (A1 (m:Int)) 2).toNat=58)))=true
  rw[b0,b1,b2,h1,h2];simp;omega
 have a1:Hh (A1 (m:Int)) 1=true:=by
  show (decide (digI (Ai (A1 (m:Int)) 3)≤15) && decide (digI (Ai (A1 (m:Int)) 4)≤15) && (decide (5≤1) || decide ((Ai (A1 (m:Int)) 5).toNat=58)))=true
  rw[b3,b4,b5,h1,h2];simp;omega
 have a2:Hh (A1 (m:Int)) 2=true:=by
  show (decide (digI (Ai (A1 (m:Int)) 6)≤15) && decide (digI (Ai (A1 (m:Int)) 7)≤15) && (decide (5≤2) || decide ((Ai (A1 (m:Int)) 8).toNat=58)))=true
  rw[b6,b7,b8,h1,h2];simp;omega
 have a3:Hh (A1 (m:Int)) 3=true:=by
  show (decide (digI (Ai (A1 (m:Int)) 9)≤15) && decide (digI (Ai (A1 (m:Int)) 10)≤15) && (decide (5≤3) || decide ((Ai (A1 (m:Int)) 11).toNat=58)))=true
  rw[b9,b10,b11,h1,h2];simp;omega
 have a4:Hh (A1 (m:Int)) 4=true:=by
  show (decide (digI (Ai (A1 (m:Int)) 12)≤15) && decide (digI (Ai (A1 (m:Int)) 13)≤15) && (decide (5≤4) || decide ((Ai (A1 (m:Int)) 14).toNat=58)))=true
  rw[b12,b13,b14,h1,h2];simp;omega
 have a5:Hh (A1 (m:Int)) 5=true:=by
  show (decide (digI (Ai (A1 (m:Int)) 15)≤15) && decide (digI (Ai (A1 (m:Int)) 16)≤15) && (decide (5≤5) || decide ((Ai (A1 (m:Int)) 17).toNat=58)))=true
  rw[b15,b16,h1,h2];simp;omega
 have hv:Ok (A1 (m:Int)) 6=m:=by
  show (((((0 * 256+digI (Ai (A1 (m:Int)) 0) * 16+digI (Ai (A1 (m:Int)) 1)) * 256+digI (Ai (A1 (m:Int)) 3) * 16+digI (Ai (A1 (m:Int)) 4)) * 256+digI (Ai (A1 (m:Int)) 6) * 16+digI (Ai (A1 (m:Int)) 7)) * 256 +
   digI (Ai (A1 (m:Int)) 9) * 16+digI (Ai (A1 (m:Int)) 10)) * 256+digI (Ai (A1 (m:Int)) 12) * 16+digI (Ai (A1 (m:Int)) 13)) * 256+digI (Ai (A1 (m:Int)) 15) * 16+digI (Ai (A1 (m:Int)) 16)=(m:Int)
  rw[b0,b1,b3,b4,b6,b7,b9,b10,b12,b13,b15,b16]
  simp only[h1,h2]
  have d0:Bg m 0=m / 1099511627776 % 256:=rfl
  have d1:Bg m 1=m / 4294967296 % 256:=rfl
  have d2:Bg m 2=m / 16777216 % 256:=rfl
  have d3:Bg m 3=m / 65536 % 256:=rfl
  have d4:Bg m 4=m / 256 % 256:=rfl
  have d5:Bg m 5=m / 1 % 256:=rfl
  omega
 have hs:(A1 (m:Int)).size=17:=by rw[e,Bp];rfl
 rw[macR,if_pos ⟨hs,by rw[List.all_eq_true];intro i hi;have:i<6:=List.mem_range.1 hi;match i,this with | 0,_=>exact a0 | 1,_=>exact a1 | 2,_=>exact a2 | 3,_=>exact a3 | 4,_=>exact a4 | 5,_=>exact a5⟩,hv]
theorem rising_iff {l:List Int} {lo hi:Int}:Df l lo hi=true↔Ach l∧(∀ x∈l,lo≤x∧x≤hi)∧0<l.length∧l.length≤16:=by
 have hg:∀ i (h:i<l.length),nth l (i:Int)=l[i]:=fun i h=>As (i:=(i:Int)) h
 rw[Df,Bool.and_eq_true,Bool.and_eq_true,decide_eq_true_eq,decide_eq_true_eq,allB_iff]
 constructor
 ·rintro ⟨⟨h1,h2⟩,h⟩
  refine⟨Zs fun i hi=>?_,fun x hx=>?_,h1,h2⟩
  ·have:=h (i+1) hi
   simp only[J0,Bool.and_eq_true,Bool.or_eq_true,decide_eq_true_eq,beq_iff_eq]at this
   rw[show (((i+1:Nat):Int)-1)=(i:Int) by omega,hg i z_]at this
   omega
  ·obtain ⟨i,hi,rfl⟩:=List.mem_iff_getElem.1 hx
   have:=h i hi
   simp only[J0,Bool.and_eq_true,decide_eq_true_eq]at this
   exact this.1
 ·rintro ⟨h,h1,h2⟩
  refine⟨h2,fun i hi=>?_⟩
  have hx:=h1 _ (List.getElem_mem hi)
  simp only[J0,Bool.and_eq_true,Bool.or_eq_true,decide_eq_true_eq,beq_iff_eq]
  refine⟨hx,?_⟩
  by_cases h0:i=0
  ·exact .inl h0
  ·right
   rw[show ((i:Int)-1)=((i-1:Nat):Int) by omega,hg (i-1) z_]
   exact List.pairwise_iff_getElem.1 h (i-1) i z_ hi z_
theorem listOK_iff {l:List Int} {hi:Int}:Du l hi=true↔l=[]∨Df l 1 hi=true:=by
 rw[Du,S9,Bool.or_eq_true,decide_eq_true_eq,List.length_eq_zero_iff]
theorem Aap {l:List Int} (hn:∀ x∈l,0≤x):Iu l=true↔Ach l∧(∀ x∈l,x≠0)∧0<l.length∧l.length≤16:=by
 have hg:∀ i (h:i<l.length),l.getD i 0=l[i]:=fun i h=>by rw[List.getD_eq_getElem?_getD,List.getElem?_eq_getElem h];rfl
 rw[Iu,Bool.and_eq_true,Bool.and_eq_true,decide_eq_true_eq,decide_eq_true_eq,List.all_eq_true]
 constructor
 ·rintro ⟨h,h1,h2⟩
  refine⟨Zs fun i hi=>?_,fun x hx=>?_,h1,h2⟩
  ·have:=h (i+1) (List.mem_range.2 hi)
   rw[Nat.add_sub_cancel,hg _ hi,hg i z_]at this
   simp only[Bool.and_eq_true,Bool.or_eq_true,decide_eq_true_eq,beq_iff_eq]at this
   omega
  ·obtain ⟨i,hi,rfl⟩:=List.mem_iff_getElem.1 hx
   have:=h i (List.mem_range.2 hi)
   rw[hg i hi]at this
   simp only[Bool.and_eq_true,decide_eq_true_eq]at this
   exact this.1
 ·rintro ⟨h,h1,h2⟩
  refine⟨fun i hi=>?_,h2⟩
  have hi:=List.mem_range.1 hi
  have hx:=h1 _ (List.getElem_mem hi)
  rw[hg i hi]
  simp only[Bool.and_eq_true,Bool.or_eq_true,decide_eq_true_eq,beq_iff_eq]
  refine⟨hx,?_⟩
  by_cases h0:i=0
  ·exact .inl h0
  ·right
   rw[hg (i-1) z_]
   exact List.pairwise_iff_getElem.1 h (i-1) i z_ hi z_
theorem num_no (n:Int) (h0:0≤n) (d:UInt8) (hd:d.toNat<48∨57<d.toNat):d∉(Aw n).data.toList:=by
 obtain ⟨m,rfl⟩:∃ m:Nat,n=m:=⟨n.toNat,by omega⟩
 rw[Dq,Bv]
 exact Acc m d hd
theorem Zz (n:Int) (h0:0≤n):∃ c r,(Aw n).data.toList=c::r∧Dd c=true:=by
 obtain ⟨m,rfl⟩:∃ m:Nat,n=m:=⟨n.toNat,by omega⟩
 rw[Dq,Bv]
 have h:=Aak m
 cases hd:(revDigs m).reverse with
 | nil=>exact absurd hd (Aqw m)
 | cons c r=>exact⟨c,r,rfl,h c (by rw[hd];rfl)⟩
theorem Ah0 (x:ByteArray) (l:List ByteArray) (sep:ByteArray) {c:UInt8} {r:List UInt8} (h:x.data.toList=c::r):∃ q,(Jk (x::l) sep).data.toList=c::q:=by
 simp only[Jk,List.map_cons,Lib.join_cons,h]
 exact⟨_,Y⟩
theorem Ad9 {s:ByteArray} {c:UInt8} {r:List UInt8} (h:s.data.toList=c::r) (hc:Dd c=true):s≠dash:=by
 intro e
 rw[e]at h
 have:(45:UInt8)=c:=by
  have:=congrArg List.head? h
  simpa [dash] using this
 exact Ace hc 45 (.inl y_) this.symm
theorem Tl (n:Int) (h:0≤n):Aw n≠dash:=by
 obtain ⟨c,r,h1,h2⟩:=Zz n h
 exact Ad9 h1 h2
theorem X0 (l:List Int) (hne:l≠[]) (h:∀ x∈l,0≤x):Dw l≠dash:=by
 cases l with
 | nil=>exact absurd rfl hne
 | cons x l =>
  obtain ⟨c,r,h1,h2⟩:=Zz x (h x qe)
  obtain ⟨q,hq⟩:=Ah0 (Aw x) (l.map Aw) comma h1
  exact Ad9 (s:=Dw (x::l)) hq h2
theorem Uz {l:List Int} {hi:Int} (hhi:hi<1000000000) (h:Du l hi=true):listR hi (Ct l)=(l,true):=by
 by_cases hne:l=[]
 ·subst hne
  rw[Ct,if_pos rfl,listR,if_pos rfl]
 ·obtain ⟨h1,h2,h3,h4⟩:=rising_iff.1 ((listOK_iff.1 h).resolve_left hne)
  have hnn:∀ x∈l,0≤x:=fun x hx=>by have:=h2 x hx;omega
  rw[Ct,if_neg hne,listR,if_neg (X0 l hne hnn),Dr,Dw,Vf Aw l hne (fun x hx=>num_no x (hnn x hx) 44 (.inl y_))]
  have:=Sn (fun p=>numR p 1 hi) Aw l [] (fun x hx=>Lf (hnn x hx) (by have:=h2 x hx;omega) (h2 x hx).1 (h2 x hx).2) h1 h4
  rw[List.nil_append]at this
  exact this
theorem Aqf {s:ByteArray} {hi:Int} {l:List Int} (h:listR hi s=(l,true)):Du l hi=true:=by
 rw[listR]at h
 split at h
 ·simp only[Prod.mk.injEq,and_true]at h
  subst h;rfl
 ·rw[Dr]at h
  obtain ⟨a,b,c,d⟩:=Im _ _ _ _ h List.Pairwise.nil y_
  refine listOK_iff.2 (.inr (rising_iff.2 ⟨a,fun x hx=>?_,?_,b⟩))
  ·rcases d x hx with hx | ⟨p,_,hp⟩
   ·cases hx
   ·exact Ajb hp
  ·rw[c,D9];simp
theorem H8 (s:ByteArray):0≤(Bo s).1:=by
 rw[Bo]
 split
 ·dsimp only
  generalize Bd 46 s=l
  cases hl:l.reverse with
  | nil =>
   have:l=[]:=by simpa using hl
   subst this;exact Int.le_refl _
  | cons x r =>
   have:l=r.reverse++[x]:=by
    have:=congrArg List.reverse hl
    simpa using this
   rw[this,Mh]
   show 0≤IntKind.u32.wrap _
   rw[IntKind.wrap_u32];omega
 ·exact Int.le_refl _
theorem Mg (s:ByteArray):(Bo s).1<4294967296:=by
 rw[Bo]
 split
 ·dsimp only
  generalize Bd 46 s=l
  cases hl:l.reverse with
  | nil =>
   have:l=[]:=by simpa using hl
   subst this;decide
  | cons x r =>
   have:l=r.reverse++[x]:=by
    have:=congrArg List.reverse hl
    simpa using this
   rw[this,Mh]
   show IntKind.u32.wrap _<_
   rw[IntKind.wrap_u32];omega
 ·decide
theorem Ait {l:List Int} (hn:∀ x∈l,0≤x∧x<4294967296) (h:Iu l=true):Bk (Dn l)=(l,true)∧l.head? ≠ some 0:=by
 obtain ⟨h1,h2,h3,h4⟩:=(Aap fun x hx=>(hn x hx).1).1 h
 have hne:l≠[]:=fun e=>by rw[e]at h3;simp at h3
 have hno:∀ x∈l,(44:UInt8)∉(B6 x).data.toList:=fun x hx=>by
  obtain ⟨m,hm⟩:∃ m:Nat,x=m:=⟨x.toNat,by have:=hn x hx;omega⟩
  rw[hm];exact Ajq m 44 y_ (.inl y_)
 refine⟨?_,fun e=>?_⟩
 ·rw[Bk,Dr,Dn,Vf B6 l hne hno]
  have:=Sn Bo B6 l [] (fun x hx=>by
   obtain ⟨m,hm⟩:∃ m:Nat,x=m:=⟨x.toNat,by have:=hn x hx;omega⟩
   have:=hn x hx
   rw[hm];exact Us m z_) h1 h4
  rw[List.nil_append]at this
  exact this
 ·cases l with
  | nil=>cases e
  | cons x l=>simp at e;exact h2 x qe e
theorem Apb {s:ByteArray} {l:List Int} (h:Bk s=(l,true)) (h0:l.head? ≠ some 0):Iu l=true:=by
 rw[Bk,Dr]at h
 obtain ⟨a,b,c,d⟩:=Im _ _ _ _ h List.Pairwise.nil y_
 have hn:∀ x∈l,0≤x:=fun x hx=>by
  rcases d x hx with hx | ⟨p,_,hp⟩
  ·cases hx
  ·have:=H8 p
   rw[hp]at this;exact this
 refine(Aap hn).2 ⟨a,fun x hx e=>?_,by rw[c,D9];simp,b⟩
 subst e
 cases l with
 | nil=>cases hx
 | cons y l =>
  rcases List.mem_cons.1 hx with hx | hx
  ·subst hx;exact h0 rfl
  ·have h1:=(List.pairwise_cons.1 a).1 0 hx
   have h2:=hn y qe
   omega
end Go.Sy.YtjenpnjajjplkaaGreatDoor
namespace Go.Sy.YtjenpnjajjplkaaGreatDoor
open Go.Proofs
set_option maxHeartbeats 4000000
theorem Amr {a b:LineM} (h:Jd a b=true):a=b:=by
 simp only[Jd,Bool.and_eq_true,beq_iff_eq]at h
 obtain ⟨a1,a2,a3,a4,a5,a6,a7,a8,a9,a10,a11,a12,a13,a14,a15,a16,a17⟩:=h
 cases a;cases b
 dsimp only at *
 subst a1 a2 a3 a4 a5 a6 a7 a8 a9 a10 a11 a12 a13 a14 a15 a16 a17
 rfl
theorem Eo (a:LineM):Jd a a=true:=by simp[Jd]
theorem D0 (w:List ByteArray) (row:Int):∀ x∈(A5 w row).2,x.2≠0:=by
 unfold A5 Cj
 dsimp only
 repeat' split
 all_goals simp
theorem Amo {w:List ByteArray} {row:Int} {L:LineM} {E:List (Bool × Int)} (hw:w≠[]) (hm:manyB (kindL (wdT w 0)) w=true) (hr:A5 w row=(L,E)) (he:∀ x∈E,x.1=false):Bt w row=(L,0):=by
 have h0:Bc E=0:=by
  clear hr
  induction E with
  | nil=>rfl
  | cons x E ih =>
   obtain ⟨b,e⟩:=x
   rw[Bc,if_neg (by have:=he (b,e) qe;dsimp only at this;rw[this];simp)]
   exact ih fun y hy=>he y (by simp[hy])
 rw[Bt,if_neg (by rw[hm];simp[hw]),hr,if_neg (by simp[h0])]
theorem Aj1 {w:List ByteArray} {row:Int} (h:(Bt w row).2=0):(Bt w row).1=(A5 w row).1∧∀ x∈(A5 w row).2,x.1=false:=by
 rw[Bt]at h ⊢
 split at h
 ·simp at h
 ·rename_i h1
  rw[if_neg h1]
  split at h
  ·rename_i h2;exact absurd h h2
  ·rename_i h2
   rw[if_neg h2]
   exact⟨Y,Q4 _ (D0 w row) z_⟩
theorem k1:kindL ⟨#[100,101,118,105,99,101]⟩=1:=by decide +kernel
theorem k2:kindL ⟨#[112,111,114,116]⟩=2:=by decide +kernel
theorem k3:kindL ⟨#[108,105,110,107]⟩=3:=by decide +kernel
theorem k4:kindL ⟨#[115,116,97,116,105,99]⟩=4:=by decide +kernel
theorem k5:kindL ⟨#[118,116,101,112]⟩=5:=by decide +kernel
theorem k6:kindL ⟨#[118,110,105]⟩=6:=by decide +kernel
theorem k7:kindL ⟨#[102,108,111,111,100]⟩=7:=by decide +kernel
theorem k8:kindL ⟨#[118,114,102]⟩=8:=by decide +kernel
theorem k9:kindL ⟨#[105,114,98]⟩=9:=by decide +kernel
theorem Va:accessT≠trunkT:=by decide +kernel
theorem O6:trunkT≠accessT:=by decide +kernel
theorem wd0 (a:ByteArray) (l:List ByteArray):wdT (a::l) 0=a:=rfl
theorem wdS (a:ByteArray) (l:List ByteArray) (i:Nat):wdT (a::l) (i+1)=wdT l i:=rfl
theorem st1 (d n m:ByteArray) (r:Int):A5 [⟨#[100,101,118,105,99,101]⟩,d,n,m] r=({ lineZ with row:=r,kind:=1,dev:=d,num:=(numR n 0 65535).1,mac:=(macR m).1 },[(!(nameB d),20),(!(numR n 0 65535).2,21),(!((macR m).2 && statB (macR m).1),21)]):=by
 unfold A5
 simp only[wd0,k1]
 rfl
theorem st2 (d p c x:ByteArray) (y:List ByteArray) (r:Int):A5 (⟨#[112,111,114,116]⟩::d::p::c::x::y) r=({ lineZ with row:=r,kind:=2,dev:=d,port:=p,cost:=(numR c 1 65535).1,vlan:=(Cj (⟨#[112,111,114,116]⟩::d::p::c::x::y)).1,tagged:=(Cj (⟨#[112,111,114,116]⟩::d::p::c::x::y)).2.1 },
  [(!(nameB d),20),(!(nameB p),20),(!(numR c 1 65535).2,21),(decide (x≠accessT) && decide (x≠trunkT),20)]++(Cj (⟨#[112,111,114,116]⟩::d::p::c::x::y)).2.2++[(!(membersB (Cj (⟨#[112,111,114,116]⟩::d::p::c::x::y)).1 (Cj (⟨#[112,111,114,116]⟩::d::p::c::x::y)).2.1),21)]):=by
 unfold A5
 simp only[wd0,k2]
 rfl
theorem st3 (d p q f:ByteArray) (r:Int):A5 [⟨#[108,105,110,107]⟩,d,p,q,f] r=({ lineZ with row:=r,kind:=3,dev:=d,port:=p,peer:=q,far:=f },[(!(nameB d),20),(!(nameB p),20),(!(nameB q),20),(!(nameB f),20)]):=by
 unfold A5
 simp only[wd0,k3]
 rfl
theorem st4 (d v m p:ByteArray) (r:Int):A5 [⟨#[115,116,97,116,105,99]⟩,d,v,m,p] r=({ lineZ with row:=r,kind:=4,dev:=d,vlan:=(Bl v).1,mac:=(macR m).1,port:=p },[(!(nameB d),20),(!(Bl v).2,21),(!((macR m).2 && statB (macR m).1),21),(!(nameB p),20)]):=by
 unfold A5
 simp only[wd0,k4]
 rfl
theorem st5 (d a:ByteArray) (r:Int):A5 [⟨#[118,116,101,112]⟩,d,a] r=({ lineZ with row:=r,kind:=5,dev:=d,addr:=(Bo a).1 },[(!(nameB d),20),(!((Bo a).2 && decide ((Bo a).1≠0)),21)]):=by
 unfold A5
 simp only[wd0,k5]
 rfl
theorem st6 (d v n:ByteArray) (r:Int):A5 [⟨#[118,110,105]⟩,d,v,n] r=({ lineZ with row:=r,kind:=6,dev:=d,vlan:=(Bl v).1,num:=(Hy n).1 },[(!(nameB d),20),(!(Bl v).2,21),(!(Hy n).2,21)]):=by
 unfold A5
 simp only[wd0,k6]
 rfl
theorem st7 (d n a:ByteArray) (r:Int):A5 [⟨#[102,108,111,111,100]⟩,d,n,a] r=({ lineZ with row:=r,kind:=7,dev:=d,num:=(Hy n).1,addrs:=(Bk a).1 },[(!(nameB d),20),(!(Hy n).2,21),(!((Bk a).2 && decide ((Bk a).1.head? ≠ some 0)),21)]):=by
 unfold A5
 simp only[wd0,k7]
 rfl
theorem st8 (d n i e:ByteArray) (r:Int):A5 [⟨#[118,114,102]⟩,d,n,i,e] r=({ lineZ with row:=r,kind:=8,dev:=d,name:=n,imports:=(listR 65535 i).1,exports:=(listR 65535 e).1 },[(!(nameB d),20),(!(nameB n),20),(!(listR 65535 i).2,21),(!(listR 65535 e).2,21)]):=by
 unfold A5
 simp only[wd0,k8]
 rfl
theorem st9 (d v n p:ByteArray) (r:Int):A5 [⟨#[105,114,98]⟩,d,v,n,p] r=({ lineZ with row:=r,kind:=9,dev:=d,vlan:=(Bl v).1,name:=n,addr:=(prefixR p).1.1,bits:=(prefixR p).1.2 },[(!(nameB d),20),(!(Bl v).2,21),(!(nameB n),20),(!((prefixR p).2 && subnetB (prefixR p).1.1 (prefixR p).1.2),21)]):=by
 unfold A5
 simp only[wd0,k9]
 rfl
theorem within_iff {n lo hi:Int}:Bz n lo hi=true↔lo≤n∧n≤hi:=by simp[Bz]
theorem Qs {m:Int} (h:statB m=true):m<281474976710656:=by
 simp only[statB,Bool.and_eq_true,decide_eq_true_eq]at h
 omega
theorem Aeg {m:Int} (h0:0≤m) (h:statB m=true):macR (A1 m)=(m,true):=by
 obtain ⟨k,rfl⟩:∃ k:Nat,m=k:=⟨m.toNat,by omega⟩
 exact Add k (by have:=Qs h;omega)
theorem Lc {v:Int} (h:Bz v 1 4094=true):Bl (Aw v)=(v,true):=by
 have:=within_iff.1 h
 exact Lf z_ z_ this.1 this.2
theorem Acp {v:Int} (h:Bz v 1 16777215=true):Hy (Aw v)=(v,true):=by
 have:=within_iff.1 h
 exact Lf z_ z_ this.1 this.2
theorem Mt {a b:Int} (h:subnetB a b=true):1≤b∧b≤30:=by
 simp only[subnetB,Bool.and_eq_true,decide_eq_true_eq]at h
 omega
structure LineOK (l:LineM):Prop where
 mac:0≤l.mac∧l.mac<18446744073709551616
 addr:0≤l.addr∧l.addr<4294967296
 addrs:∀ x∈l.addrs,0≤x∧x<4294967296
theorem W9 {l:LineM} (ho:LineOK l) (h:B1 l=true):Bt (Ao l) l.row=(l,0):=by
 rw[B1,Bool.and_eq_true,Bool.and_eq_true]at h
 obtain ⟨hu,hd,hs⟩:=h
 have hs:=Amr hs
 have key:∀ {w E} (L:LineM),w≠[]→manyB (kindL (wdT w 0)) w=true→A5 w l.row=(L,E)→(∀ x∈E,x.1=false)→(A7 l).1=L→Bt w l.row=(l,0):=fun L a b c d e=>by
  rw[Amo a b c d,← e,hs]
 by_cases h1:l.kind=1
 ·have hw:Ao l=[⟨#[100,101,118,105,99,101]⟩,l.dev,Aw l.num,A1 l.mac]:=by rw[Ao,if_pos h1]
  simp only[A7,if_pos h1,Bool.and_eq_true]at hu
  have hn:=within_iff.1 hu.1
  have e1:=Lf (lo:=0) (hi:=65535) (n:=l.num) z_ z_ hn.1 hn.2
  have e2:=Aeg ho.mac.1 hu.2
  rw[hw]
  refine key _ qe (by rw[wd0,k1];rfl) (st1 _ _ _ _) ?_ ?_
  ·simp[e1,e2,hd,hu.2]
  ·rw[e1,e2];simp only[A7,if_pos h1];rw[h1]
 by_cases h2:l.kind=2
 ·simp only[A7,if_neg h1,if_pos h2,Bool.and_eq_true]at hu
  obtain ⟨u1,u2,u3,u4,u5⟩:=hu
  have hc:=within_iff.1 u2
  have hv:=within_iff.1 u3
  have e1:=Lf (lo:=1) (hi:=65535) (n:=l.cost) z_ z_ hc.1 hc.2
  by_cases ht:l.tagged=[]
  ·have hw:Ao l=[⟨#[112,111,114,116]⟩,l.dev,l.port,Aw l.cost,accessT,Aw l.vlan]:=by rw[Ao,if_neg h1,if_pos h2,K6,if_pos ht]
   have hv1:Bz l.vlan 1 4094=true:=by
    rw[ht]at u5
    simp[membersB]at u5
    exact within_iff.2 ⟨by omega,hv.2⟩
   have e2:=Lc hv1
   have hp:Cj [⟨#[112,111,114,116]⟩,l.dev,l.port,Aw l.cost,accessT,Aw l.vlan]=(l.vlan,[],[(false,21)]):=by
    unfold Cj
    simp only[wd0,wdS,e2]
    simp
   rw[hw]
   refine key _ qe (by rw[wd0,k2];rfl) (st2 _ _ _ _ _ _) ?_ ?_
   ·rw[hp,e1]
    rw[ht]at u5
    simp[hd,u1,u5]
   ·rw[hp,e1];simp only[A7,if_neg h1,if_pos h2];rw[h2,ht]
  ·have hl:=Uz y_ u4
   by_cases hv0:l.vlan=0
   ·have hw:Ao l=[⟨#[112,111,114,116]⟩,l.dev,l.port,Aw l.cost,trunkT,dash,Ct l.tagged]:=by rw[Ao,if_neg h1,if_pos h2,K6,if_neg ht,if_pos hv0]
    have hp:Cj [⟨#[112,111,114,116]⟩,l.dev,l.port,Aw l.cost,trunkT,dash,Ct l.tagged]=(0,l.tagged,[(false,21)]):=by
     unfold Cj
     simp only[wd0,wdS,hl]
     first | rw[if_neg O6,if_pos rfl,if_pos rfl] | rw[if_neg O6,if_pos trivial,if_pos trivial]
     rfl
    rw[hw]
    refine key _ qe (by rw[wd0,k2];rfl) (st2 _ _ _ _ _ _) ?_ ?_
    ·rw[hp,e1]
     rw[hv0]at u5
     simp[hd,u1,u5]
    ·rw[hp,e1];simp only[A7,if_neg h1,if_pos h2];rw[h2,hv0]
   ·have hw:Ao l=[⟨#[112,111,114,116]⟩,l.dev,l.port,Aw l.cost,trunkT,Aw l.vlan,Ct l.tagged]:=by rw[Ao,if_neg h1,if_pos h2,K6,if_neg ht,if_neg hv0]
    have e2:=Lc (v:=l.vlan) (within_iff.2 ⟨by omega,hv.2⟩)
    have hp:Cj [⟨#[112,111,114,116]⟩,l.dev,l.port,Aw l.cost,trunkT,Aw l.vlan,Ct l.tagged]=(l.vlan,l.tagged,[(false,21),(false,21)]):=by
     unfold Cj
     simp only[wd0,wdS,hl,e2]
     first | rw[if_neg O6,if_pos rfl,if_neg (Tl _ hv.1)] | rw[if_neg O6,if_pos trivial,if_neg (Tl _ hv.1)]
     rfl
    rw[hw]
    refine key _ qe (by rw[wd0,k2];rfl) (st2 _ _ _ _ _ _) ?_ ?_
    ·rw[hp,e1]
     simp[hd,u1,u5]
    ·rw[hp,e1];simp only[A7,if_neg h1,if_pos h2];rw[h2]
 by_cases h3:l.kind=3
 ·have hw:Ao l=[⟨#[108,105,110,107]⟩,l.dev,l.port,l.peer,l.far]:=by rw[Ao,if_neg h1,if_neg h2,if_pos h3]
  simp only[A7,if_neg h1,if_neg h2,if_pos h3,Bool.and_eq_true]at hu
  rw[hw]
  refine key _ qe (by rw[wd0,k3];rfl) (st3 _ _ _ _ _) ?_ ?_
  ·simp[hd,hu]
  ·simp only[A7,if_neg h1,if_neg h2,if_pos h3];rw[h3]
 by_cases h4:l.kind=4
 ·have hw:Ao l=[⟨#[115,116,97,116,105,99]⟩,l.dev,Aw l.vlan,A1 l.mac,l.port]:=by rw[Ao,if_neg h1,if_neg h2,if_neg h3,if_pos h4]
  simp only[A7,if_neg h1,if_neg h2,if_neg h3,if_pos h4,Bool.and_eq_true]at hu
  have e1:=Lc hu.1
  have e2:=Aeg ho.mac.1 hu.2.1
  rw[hw]
  refine key _ qe (by rw[wd0,k4];rfl) (st4 _ _ _ _ _) ?_ ?_
  ·simp[e1,e2,hd,hu]
  ·rw[e1,e2];simp only[A7,if_neg h1,if_neg h2,if_neg h3,if_pos h4];rw[h4]
 by_cases h5:l.kind=5
 ·have hw:Ao l=[⟨#[118,116,101,112]⟩,l.dev,B6 l.addr]:=by rw[Ao,if_neg h1,if_neg h2,if_neg h3,if_neg h4,if_pos h5]
  simp only[A7,if_neg h1,if_neg h2,if_neg h3,if_neg h4,if_pos h5]at hu
  have e1:Bo (B6 l.addr)=(l.addr,true):=by
   obtain ⟨m,hm⟩:∃ m:Nat,l.addr=m:=⟨l.addr.toNat,by have:=ho.addr;omega⟩
   rw[hm];exact Us m (by have:=ho.addr;omega)
  rw[hw]
  refine key _ qe (by rw[wd0,k5];rfl) (st5 _ _ _) ?_ ?_
  ·rw[e1];simp only[decide_eq_true_eq]at hu;simp[hd,hu]
  ·rw[e1];simp only[A7,if_neg h1,if_neg h2,if_neg h3,if_neg h4,if_pos h5];rw[h5]
 by_cases h6:l.kind=6
 ·have hw:Ao l=[⟨#[118,110,105]⟩,l.dev,Aw l.vlan,Aw l.num]:=by rw[Ao,if_neg h1,if_neg h2,if_neg h3,if_neg h4,if_neg h5,if_pos h6]
  simp only[A7,if_neg h1,if_neg h2,if_neg h3,if_neg h4,if_neg h5,if_pos h6,Bool.and_eq_true]at hu
  have e1:=Lc hu.1
  have e2:=Acp hu.2
  rw[hw]
  refine key _ qe (by rw[wd0,k6];rfl) (st6 _ _ _ _) ?_ ?_
  ·simp[e1,e2,hd]
  ·rw[e1,e2];simp only[A7,if_neg h1,if_neg h2,if_neg h3,if_neg h4,if_neg h5,if_pos h6];rw[h6]
 by_cases h7:l.kind=7
 ·have hw:Ao l=[⟨#[102,108,111,111,100]⟩,l.dev,Aw l.num,Dn l.addrs]:=by rw[Ao,if_neg h1,if_neg h2,if_neg h3,if_neg h4,if_neg h5,if_neg h6,if_pos h7]
  simp only[A7,if_neg h1,if_neg h2,if_neg h3,if_neg h4,if_neg h5,if_neg h6,if_pos h7,Bool.and_eq_true]at hu
  have e1:=Acp hu.1
  obtain ⟨e2,e3⟩:=Ait ho.addrs hu.2
  rw[hw]
  refine key _ qe (by rw[wd0,k7];rfl) (st7 _ _ _ _) ?_ ?_
  ·simp[e1,e2,e3,hd]
  ·rw[e1,e2];simp only[A7,if_neg h1,if_neg h2,if_neg h3,if_neg h4,if_neg h5,if_neg h6,if_pos h7];rw[h7]
 by_cases h8:l.kind=8
 ·have hw:Ao l=[⟨#[118,114,102]⟩,l.dev,l.name,Ct l.imports,Ct l.exports]:=by rw[Ao,if_neg h1,if_neg h2,if_neg h3,if_neg h4,if_neg h5,if_neg h6,if_neg h7,if_pos h8]
  simp only[A7,if_neg h1,if_neg h2,if_neg h3,if_neg h4,if_neg h5,if_neg h6,if_neg h7,if_pos h8,Bool.and_eq_true]at hu
  have e1:=Uz y_ hu.2.1
  have e2:=Uz y_ hu.2.2
  rw[hw]
  refine key _ qe (by rw[wd0,k8];rfl) (st8 _ _ _ _ _) ?_ ?_
  ·simp[e1,e2,hd,hu.1]
  ·rw[e1,e2];simp only[A7,if_neg h1,if_neg h2,if_neg h3,if_neg h4,if_neg h5,if_neg h6,if_neg h7,if_pos h8];rw[h8]
 by_cases h9:l.kind=9
 ·have hw:Ao l=[⟨#[105,114,98]⟩,l.dev,Aw l.vlan,l.name,C1 l.addr l.bits]:=by rw[Ao,if_neg h1,if_neg h2,if_neg h3,if_neg h4,if_neg h5,if_neg h6,if_neg h7,if_neg h8,if_pos h9]
  simp only[A7,if_neg h1,if_neg h2,if_neg h3,if_neg h4,if_neg h5,if_neg h6,if_neg h7,if_neg h8,if_pos h9,Bool.and_eq_true]at hu
  have e1:=Lc hu.1
  have hb:=Mt hu.2.2
  have e2:prefixR (C1 l.addr l.bits)=((l.addr,l.bits),true):=by
   obtain ⟨m,hm⟩:∃ m:Nat,l.addr=m:=⟨l.addr.toNat,by have:=ho.addr;omega⟩
   rw[hm];exact Adc m _ (by have:=ho.addr;omega) z_ z_
  rw[hw]
  refine key _ qe (by rw[wd0,k9];rfl) (st9 _ _ _ _ _) ?_ ?_
  ·simp[e1,e2,hd,hu.2.1,hu.2.2]
  ·rw[e1,e2];simp only[A7,if_neg h1,if_neg h2,if_neg h3,if_neg h4,if_neg h5,if_neg h6,if_neg h7,if_neg h8,if_pos h9];rw[h9]
 ·simp only[A7,if_neg h1,if_neg h2,if_neg h3,if_neg h4,if_neg h5,if_neg h6,if_neg h7,if_neg h8,if_neg h9]at hu
  cases hu
theorem Aav {s:ByteArray} {v:Int} (h:(Bl s).2=true) (e:(Bl s).1=v):Bz v 1 4094=true:=by
 have:=Es h
 exact within_iff.2 (by rw[← e];exact this)
theorem Ame {s:ByteArray} {v:Int} (h:(Hy s).2=true) (e:(Hy s).1=v):Bz v 1 16777215=true:=by
 have:=Es h
 exact within_iff.2 (by rw[← e];exact this)
theorem Ly {α:Type} {p:α × Bool} (h:p.2=true):p=(p.1,true):=by rw[← h]
end Go.Sy.YtjenpnjajjplkaaGreatDoor
namespace Go.Sy.YtjenpnjajjplkaaGreatDoor
open Go.Proofs
attribute [local irreducible] Go.Sy.G Go.Sy.DR
set_option maxRecDepth 100000
set_option maxHeartbeats 4000000
theorem Cw {a b:ByteArray} (h:a≠b):(a == b)=false:=by
 cases hx:(a == b)
 ·rfl
 ·exact absurd ((Eh _ _).1 hx) h
theorem Ca {a b:ByteArray} (h:a=b):(a == b)=true:=(Eh _ _).2 h
theorem Ko {a b:ByteArray} (h:a≠b):(!(a == b))=true:=by rw[Cw h];rfl
theorem Hg {a b:ByteArray} (h:a=b):(!(a == b))=false:=by rw[Ca h];rfl
theorem Ew (s:ByteArray):Sy.Spec Tryz.prog 230 [Ad s] [] (Aa (kindL s)) []:=cT F230 Tryz.ntmps230 fun F hF=>by
 have hk:=kindL.eq_1 s
 generalize kindL s=k at *
 by_cases c1:s=(⟨#[100,101,118,105,99,101]⟩:ByteArray)
 ·have b1:=Ca c1
  rw[if_pos c1]at hk
  subst hk
  refine T ?_
  exact D
 have b1:=Cw c1
 rw[if_neg c1]at hk
 by_cases c2:s=(⟨#[112,111,114,116]⟩:ByteArray)
 ·have b2:=Ca c2
  rw[if_pos c2]at hk
  subst hk
  refine T ?_
  exact D
 have b2:=Cw c2
 rw[if_neg c2]at hk
 by_cases c3:s=(⟨#[108,105,110,107]⟩:ByteArray)
 ·have b3:=Ca c3
  rw[if_pos c3]at hk
  subst hk
  refine T ?_
  exact D
 have b3:=Cw c3
 rw[if_neg c3]at hk
 by_cases c4:s=(⟨#[115,116,97,116,105,99]⟩:ByteArray)
 ·have b4:=Ca c4
  rw[if_pos c4]at hk
  subst hk
  refine T ?_
  exact D
 have b4:=Cw c4
 rw[if_neg c4]at hk
 by_cases c5:s=(⟨#[118,116,101,112]⟩:ByteArray)
 ·have b5:=Ca c5
  rw[if_pos c5]at hk
  subst hk
  refine T ?_
  exact D
 have b5:=Cw c5
 rw[if_neg c5]at hk
 by_cases c6:s=(⟨#[118,110,105]⟩:ByteArray)
 ·have b6:=Ca c6
  rw[if_pos c6]at hk
  subst hk
  refine T ?_
  exact D
 have b6:=Cw c6
 rw[if_neg c6]at hk
 by_cases c7:s=(⟨#[102,108,111,111,100]⟩:ByteArray)
 ·have b7:=Ca c7
  rw[if_pos c7]at hk
  subst hk
  refine T ?_
  exact D
 have b7:=Cw c7
 rw[if_neg c7]at hk
 by_cases c8:s=(⟨#[118,114,102]⟩:ByteArray)
 ·have b8:=Ca c8
  rw[if_pos c8]at hk
  subst hk
  refine T ?_
  exact D
 have b8:=Cw c8
 rw[if_neg c8]at hk
 by_cases c9:s=(⟨#[105,114,98]⟩:ByteArray)
 ·have b9:=Ca c9
  rw[if_pos c9]at hk
  subst hk
  refine T ?_
  exact D
 have b9:=Cw c9
 rw[if_neg c9]at hk
 subst hk
 refine T ?_
 exact D
theorem Ev (k:Int) (hk:0≤k∧k≤9) (w:List ByteArray) (hw:w.length≤1000000):Sy.Spec Tryz.prog 229 [Aa k,.sl 1 Ad w] [] (Ab (manyB k w)) []:=cT F229 Tryz.ntmps229 fun F hF=>by
 have hm2:=manyB.eq_1 k w
 generalize manyB k w=r at *
 rcases (by omega:k=0∨k=1∨k=2∨k=3∨k=4∨k=5∨k=6∨k=7∨k=8∨k=9) with h | h | h | h | h | h | h | h | h | h
 ·subst h
  have hr:r=false:=by rw[hm2];simp
  subst hr
  refine T ?_
  exact D
 ·subst h
  have hr:r=decide (w.length=4):=by rw[hm2];simp
  subst hr
  refine T ?_
  refine Ar Y (.cons .tmp .nil) (congrArg Ab ?_) Y
  by_cases hn:w.length=4
  ·rw[hn];rfl
  ·rw[decide_eq_false hn];symm;simp;omega
 ·subst h
  rw[if_neg y_,if_pos rfl]at hm2
  by_cases h6:w.length<6
  ·rw[if_pos h6]at hm2
   subst hm2
   refine T ?_
   exact D
  ·rw[if_neg h6]at hm2
   have f6:decide ((w.length:Int)<6)=false:=decide_eq_false z_
   have h4:(4:Int).toNat<w.length:=by show 4<w.length;omega
   have hx:wdT w 4=w[(4:Int).toNat]'h4:=Ch z_
   rw[hx]at hm2
   by_cases ca:w[(4:Int).toNat]'h4=accessT
   ·have ba:(w[(4:Int).toNat]'h4 == (⟨#[97,99,99,101,115,115]⟩:ByteArray))=true:=Ca ca
    have bt:(w[(4:Int).toNat]'h4 == (⟨#[116,114,117,110,107]⟩:ByteArray))=false:=Cw (by rw[ca];exact Va)
    have na:(!(w[(4:Int).toNat]'h4 == (⟨#[97,99,99,101,115,115]⟩:ByteArray)))=false:=Hg ca
    rw[if_pos ca]at hm2
    by_cases hn:w.length=6
    ·rw[decide_eq_true hn]at hm2
     subst hm2
     refine T ?_
     exact D
    ·rw[decide_eq_false hn]at hm2
     have fb:((w.length:Int) == 6)=false:=by rw[beq_eq_false_iff_ne];omega
     subst hm2
     refine T ?_
     exact D
   ·have ba:(w[(4:Int).toNat]'h4 == (⟨#[97,99,99,101,115,115]⟩:ByteArray))=false:=Cw ca
    have na:(!(w[(4:Int).toNat]'h4 == (⟨#[97,99,99,101,115,115]⟩:ByteArray)))=true:=Ko ca
    rw[if_neg ca]at hm2
    by_cases ctr:w[(4:Int).toNat]'h4=trunkT
    ·have bt:(w[(4:Int).toNat]'h4 == (⟨#[116,114,117,110,107]⟩:ByteArray))=true:=Ca ctr
     have nt:(!(w[(4:Int).toNat]'h4 == (⟨#[116,114,117,110,107]⟩:ByteArray)))=false:=Hg ctr
     rw[if_pos ctr]at hm2
     by_cases hn:w.length=7
     ·rw[decide_eq_true hn]at hm2
      subst hm2
      refine T ?_
      exact D
     ·rw[decide_eq_false hn]at hm2
      have fb:((w.length:Int) == 7)=false:=by rw[beq_eq_false_iff_ne];omega
      subst hm2
      refine T ?_
      exact D
    ·have bt:(w[(4:Int).toNat]'h4 == (⟨#[116,114,117,110,107]⟩:ByteArray))=false:=Cw ctr
     have nt:(!(w[(4:Int).toNat]'h4 == (⟨#[116,114,117,110,107]⟩:ByteArray)))=true:=Ko ctr
     rw[if_neg ctr]at hm2
     subst hm2
     refine T ?_
     refine Ar Y (.cons .tmp .nil) (congrArg Ab ?_) Y
     exact decide_eq_decide.2 z_
 ·subst h
  have hr:r=decide (w.length=5):=by rw[hm2];simp
  subst hr
  refine T ?_
  refine Ar Y (.cons .tmp .nil) (congrArg Ab ?_) Y
  by_cases hn:w.length=5
  ·rw[hn];rfl
  ·rw[decide_eq_false hn];symm;simp;omega
 ·subst h
  have hr:r=decide (w.length=5):=by rw[hm2];simp
  subst hr
  refine T ?_
  refine Ar Y (.cons .tmp .nil) (congrArg Ab ?_) Y
  by_cases hn:w.length=5
  ·rw[hn];rfl
  ·rw[decide_eq_false hn];symm;simp;omega
 ·subst h
  have hr:r=decide (w.length=3):=by rw[hm2];simp
  subst hr
  refine T ?_
  refine Ar Y (.cons .tmp .nil) (congrArg Ab ?_) Y
  by_cases hn:w.length=3
  ·rw[hn];rfl
  ·rw[decide_eq_false hn];symm;simp;omega
 ·subst h
  have hr:r=decide (w.length=4):=by rw[hm2];simp
  subst hr
  refine T ?_
  refine Ar Y (.cons .tmp .nil) (congrArg Ab ?_) Y
  by_cases hn:w.length=4
  ·rw[hn];rfl
  ·rw[decide_eq_false hn];symm;simp;omega
 ·subst h
  have hr:r=decide (w.length=4):=by rw[hm2];simp
  subst hr
  refine T ?_
  refine Ar Y (.cons .tmp .nil) (congrArg Ab ?_) Y
  by_cases hn:w.length=4
  ·rw[hn];rfl
  ·rw[decide_eq_false hn];symm;simp;omega
 ·subst h
  have hr:r=decide (w.length=5):=by rw[hm2];simp
  subst hr
  refine T ?_
  refine Ar Y (.cons .tmp .nil) (congrArg Ab ?_) Y
  by_cases hn:w.length=5
  ·rw[hn];rfl
  ·rw[decide_eq_false hn];symm;simp;omega
 ·subst h
  have hr:r=decide (w.length=5):=by rw[hm2];simp
  subst hr
  refine T ?_
  refine Ar Y (.cons .tmp .nil) (congrArg Ab ?_) Y
  by_cases hn:w.length=5
  ·rw[hn];rfl
  ·rw[decide_eq_false hn];symm;simp;omega
theorem Ve (a:Nat) (b:Int) (ha:a<4294967296):Sy.Spec Tryz.prog 243 [Di a b] [] (Ab (subnetB a b)) []:=cT F243 Tryz.ntmps243 fun F hF=>by
 have q1:=Aiw a b ha
 have q2:=Al7 a b ha
 have hs:=subnetB.eq_1 (a:Int) b
 generalize subnetB (a:Int) b=r at *
 generalize Ed (a:Int) b=fi at *
 generalize lastI (a:Int) b=la at *
 by_cases h1:1≤b
 ·by_cases h2:b≤30
  ·by_cases h3:(a:Int)=fi
   ·have f3:((a:Int) != fi)=false:=by rw[bne_eq_false_iff_eq];exact h3
    have hr:r=false:=by rw[hs];simp[h3]
    subst hr
    refine T ?_
    refine C q1 F307 ?_
    exact D
   ·have f3:((a:Int) != fi)=true:=by rw[bne_iff_ne];exact h3
    by_cases h4:(a:Int)=la
    ·have f4:((a:Int) != la)=false:=by rw[bne_eq_false_iff_eq];exact h4
     have hr:r=false:=by rw[hs];simp[h4]
     subst hr
     refine T ?_
     refine C q1 F307 ?_
     refine C q2 F308 ?_
     refine Ar Y (.cons .tmp .nil) (congrArg Ab f4.symm) Y
    ·have f4:((a:Int) != la)=true:=by rw[bne_iff_ne];exact h4
     have hr:r=true:=by rw[hs];simp[h1,h2,h3,h4]
     subst hr
     refine T ?_
     refine C q1 F307 ?_
     refine C q2 F308 ?_
     refine Ar Y (.cons .tmp .nil) (congrArg Ab f4.symm) Y
  ·have hr:r=false:=by rw[hs];simp[h2]
   subst hr
   refine T ?_
   exact D
 ·have hr:r=false:=by rw[hs];simp[h1]
  subst hr
  refine T ?_
  exact D
theorem Aes (l:List Int) (v:Int):l.contains v=inB l v:=by
 induction l with
 | nil=>rfl
 | cons x l ih =>
  rw[List.contains_cons,ih,inB,inB,List.any_cons]
  congr 1
  exact Bool.beq_comm
theorem Ib (l:LineM) (hl:At l.tagged):Sy.Spec Tryz.prog 302 [Al l] [] (Ab (membersB l.vlan l.tagged)) []:=cT F302 Tryz.ntmps302 fun F hF=>by
 have q:=Ll l.tagged l.vlan hl
 have hm2:=membersB.eq_1 l.vlan l.tagged
 rw[Aes]at hm2
 generalize membersB l.vlan l.tagged=r at *
 generalize inB l.tagged l.vlan=ib at *
 unfold At at hl
 by_cases h1:0<l.vlan
 ·have hr:r=!ib:=by rw[hm2];simp[h1]
  subst hr
  refine T ?_
  refine C q F100 ?_
  exact D
 ·by_cases h2:l.tagged.length=0
  ·have hr:r=false:=by
    rw[hm2,decide_eq_false h1,List.eq_nil_of_length_eq_zero h2];rfl
   subst hr
   refine T ?_
   exact D
  ·have hr:r=!ib:=by
    rw[hm2]
    have:l.tagged.isEmpty=false:=by cases ht:l.tagged<;>simp_all
    simp[this]
   have f2:decide ((l.tagged.length:Int)>0)=true:=decide_eq_true z_
   subst hr
   refine T ?_
   refine C q F100 ?_
   exact D
end Go.Sy.YtjenpnjajjplkaaGreatDoor
namespace Go.Sy
theorem Mn {P:Program} (Γ:Ty P) {o:Oper} {s:SS} {t:TypeId} {ti:TI} {et:TypeId} {len esz sz g:Nat} {y:Operand} {ik:IntKind} {n:Int} {z:SV} (k:Nat)
  (h:o.op=.indexAddr t (.global g) y) (ht:Γ.get t=some ti) (hk:ti.k=.array et len esz) (hb:s.h k=.glob sz z g) (hy:ev s y=.val (.int ik n)) (h0:0≤n) (hn:n.toNat<len) :
  Good P o s ⟨.ref sz z (n.toNat * esz),[k],[]⟩ :=
 Good.pure fun κ a w _ hr ho=>by
  have h1:=ho k qe
  have h2:=hr y (by simp[h,Op.operands])
  rw[hb]at h1
  rw[hy]at h2
  simp only[ObOK,Rd,RdD]at h1
  obtain ⟨b,oo,u,e1,e2,e3,e4,e5⟩:=h1
  obtain ⟨hu,i,q1,q2⟩:=O1 Γ ht hk
  simp only[Nat.add_zero,Value.pointer.injEq,Option.some.injEq,Addr.mk.injEq,and_true]at e1
  obtain ⟨rfl,rfl⟩:=e1
  refine⟨.pointer (some ⟨g,0+n.toNat * esz,none⟩),?_,?_⟩
  ·have hg:a.eval (.global g)=.pointer (some ⟨g,0,none⟩):=rfl
   simp only[execOp,h,hg,h2.val]
   simp[Lt w hu q1 q2 h0 hn]
  ·simp only[Rd,RdD]
   exact⟨g,0,u,Y,e2,e3,e4,e5⟩
theorem Ob.shp_glob {x:Ob} {sz g:Nat} {z:SV} (h:x.shp=(Ob.glob sz z g).shp):x=.glob sz z g:=by
 cases x<;>simp_all[Ob.shp]
theorem GoodX.glob {P:Program} (Γ:Ty P) {o:Oper} {s:SS} {t:TypeId} {ti:TI} {et:TypeId} {len esz sz g:Nat} {y:Operand} {ik:IntKind} {n:Int} {z:SV} (k:Nat)
  (h:o.op=.indexAddr t (.global g) y) (ht:Γ.get t=some ti) (hk:ti.k=.array et len esz) (hb:s.h k=.glob sz z g) (hy:ev s y=.val (.int ik n)) (h0:0≤n) (hn:n.toNat<len) :
  GoodX P o s ⟨.ref sz z (n.toNat * esz),[k],[]⟩ where
 good:=(Mn Γ k h ht hk hb hy h0 hn).two
 idx _:=⟨rfl,fun s' h1 h2=>Mn Γ k h ht hk (Ob.shp_glob ((h2 k qe).trans (congrArg Ob.shp hb))) ((h1 y (by simp[h,Op.operands])).trans hy) h0 hn⟩
 st hs:=by simp[Sq,h]at hs
theorem stepDX {C:Cx} {k:List KI} {s:SS} {all:Array Oper} {done:List Stp} {o:Oper} {rest:List Oper} {U:Up} (hg:GoodX C.P o s U) (hi:all[done.length]? = some o) (hw:E7 C.n all o s=some true)
  (h:DR C k all (done++[⟨done.length,o,U,true⟩]) rest (s.upd o.dst U)):DR C k all done (o::rest) s:=Apj U hg hi (D5 hw).1 h
section
open Go.ChangeShapes Go.WideShapes Go.ChangeAt Go.RowKit
variable {H:Type} {enc:TypeId × Value→H} {P:Program}
end
end Go.Sy
namespace Go.Sy
theorem D6 {P:Program} (Γ:Ty P) {o:Oper} {s:SS} {t:TypeId} {ti:TI} {et:TypeId} {len:Nat} {x y:Operand} {ik:IntKind} {n:Int} {l:List SV} {z:SV} {k:EK} (h:o.op=.index t x y) (ht:Γ.get t=some ti) (hk:ti.k=.array et len 1)
  (he:P.underlying et=some (EK.desc k)) (hx:ev s x=.agg l) (hy:ev s y=.val (.int ik n)) (h0:0≤n) (hn:n.toNat<len) (hz:Ir l n.toNat=some z):Good P o s ⟨z,[],[]⟩ :=
 Good.pure fun κ a w _ hr _=>by
  have h1:=hr x (by simp[h,Op.operands])
  have h2:=hr y (by simp[h,Op.operands])
  rw[hx]at h1
  rw[hy]at h2
  simp only[Rd]at h1
  obtain ⟨cs,e1,_,e2⟩:=h1
  obtain ⟨v,e3,e4⟩:=e2.getT hz
  obtain ⟨hu,i,q1,q2⟩:=O1 Γ ht hk
  have hp:=Mz (P:=P) w he cs.toArray e3
  have hlt:n<len:=by omega
  refine⟨v,?_,e4⟩
  simp[execOp,h,e1,h2.val,Instr.index,run_underlying hu,asIntOf,h0,hlt,sizeOf,typeInfo,q1,q2,hp]
theorem Ag {C:Cx} {k:List KI} {s:SS} (d:Nat) (l':List SV) {l:List SV} (h:s.h d=.box l) (hv:VwL s [] l l') (hg:G C k ⟨s.σ,upd s.h d (.box l')⟩):G C k s:=fun κ a w hs =>
 hg κ a w ⟨hs.defers,hs.size,hs.inv,hs.ctx,hs.slot,fun i=>by
  show ObOK κ w i (upd s.h d (.box l') i)
  by_cases hi:i=d
  ·subst hi
   rw[Cm]
   have:=hs.obj i
   rw[h]at this
   obtain ⟨b,cs,T,fr,e1,e2,e3,e4,e5⟩:=this
   exact⟨b,cs,T,fr,e1,e2,e3,e4,VwL.rd hs.inv (fun _ hn=>by cases hn) hv e5⟩
  ·rw[Do _ _ hi];exact hs.obj i⟩
end Go.Sy
namespace Go.Sy.YtjenpnjajjplkaaGreatDoor
open Go.Proofs
attribute [local irreducible] Go.Sy.G Go.Sy.DR
set_option maxRecDepth 100000
set_option maxHeartbeats 4000000
theorem Jw (l m:List Int) (hl:l.length≤1000000) (hm1:m.length≤1000000):Sy.Spec Tryz.prog 52 [.sl 1 Aa l,.sl 1 Aa m] [] (Ab (l == m)) []:=cT F52 Tryz.ntmps52 fun F hF=>by
 by_cases hlen:l.length=m.length
 rotate_left
 ·have hr:(l == m)=false:=by
   rw[beq_eq_false_iff_ne];intro e;exact hlen (by rw[e])
  have f0:((l.length:Int) != (m.length:Int))=true:=by rw[bne_iff_ne];omega
  rw[hr]
  refine T ?_
  exact D
 have f0:((l.length:Int) != (m.length:Int))=false:=by rw[bne_eq_false_iff_eq];omega
 refine T ?_
 refine A2 l.length (fun j=>l.take j=m.take j) (fun j=>[(0,.sl 1 Aa l),(1,.sl 1 Aa m),(12,Aa l.length),(13,Aa j)]) (fun _=>[]) [] Y U ?_
 intro j hj hI
 refine T ?_
 refine⟨fun h=>?_,fun h=>?_⟩
 ·have hlt:j<l.length:=qA h
  have hlm:j<m.length:=by omega
  have hlt0:((j:Nat):Int).toNat<l.length:=hlt
  have hlm0:((j:Nat):Int).toNat<m.length:=hlm
  clear h
  by_cases he:l[j]=m[j]
  ·have f1:(l[((j:Nat):Int).toNat]'hlt0 != m[((j:Nat):Int).toNat]'hlm0)=false:=by rw[bne_eq_false_iff_eq];exact he
   refine T ?_
   refine Ba [] hI z_ ?_ U
   rw[List.take_succ_eq_append_getElem hlt,List.take_succ_eq_append_getElem hlm,hI,he]
  ·have f1:(l[((j:Nat):Int).toNat]'hlt0 != m[((j:Nat):Int).toNat]'hlm0)=true:=by rw[bne_iff_ne];exact he
   have hr:(l == m)=false:=by
    rw[beq_eq_false_iff_ne];intro e;subst e;exact he rfl
   rw[hr]
   refine T ?_
   exact D
 ·have hje:j=l.length:=qB h
  subst hje
  have hr:(l == m)=true:=by
   rw[beq_iff_eq]
   rw[List.take_length,hlen,List.take_length]at hI
   exact hI
  rw[hr]
  clear h
  refine T ?_
  exact D
theorem Wa (l m:List Int) (hl:l.length≤1000000) (hm1:m.length≤1000000):Sy.Spec Tryz.prog 57 [.sl 1 A3 l,.sl 1 A3 m] [] (Ab (l == m)) []:=cT F57 Tryz.ntmps57 fun F hF=>by
 by_cases hlen:l.length=m.length
 rotate_left
 ·have hr:(l == m)=false:=by
   rw[beq_eq_false_iff_ne];intro e;exact hlen (by rw[e])
  have f0:((l.length:Int) != (m.length:Int))=true:=by rw[bne_iff_ne];omega
  rw[hr]
  refine T ?_
  exact D
 have f0:((l.length:Int) != (m.length:Int))=false:=by rw[bne_eq_false_iff_eq];omega
 refine T ?_
 refine A2 l.length (fun j=>l.take j=m.take j) (fun j=>[(0,.sl 1 A3 l),(1,.sl 1 A3 m),(12,Aa l.length),(13,Aa j)]) (fun _=>[]) [] Y U ?_
 intro j hj hI
 refine T ?_
 refine⟨fun h=>?_,fun h=>?_⟩
 ·have hlt:j<l.length:=qA h
  have hlm:j<m.length:=by omega
  have hlt0:((j:Nat):Int).toNat<l.length:=hlt
  have hlm0:((j:Nat):Int).toNat<m.length:=hlm
  clear h
  by_cases he:l[j]=m[j]
  ·have f1:(l[((j:Nat):Int).toNat]'hlt0 != m[((j:Nat):Int).toNat]'hlm0)=false:=by rw[bne_eq_false_iff_eq];exact he
   refine T ?_
   refine Ba [] hI z_ ?_ U
   rw[List.take_succ_eq_append_getElem hlt,List.take_succ_eq_append_getElem hlm,hI,he]
  ·have f1:(l[((j:Nat):Int).toNat]'hlt0 != m[((j:Nat):Int).toNat]'hlm0)=true:=by rw[bne_iff_ne];exact he
   have hr:(l == m)=false:=by
    rw[beq_eq_false_iff_ne];intro e;subst e;exact he rfl
   rw[hr]
   refine T ?_
   exact D
 ·have hje:j=l.length:=qB h
  subst hje
  have hr:(l == m)=true:=by
   rw[beq_iff_eq]
   rw[List.take_length,hlen,List.take_length]at hI
   exact hI
  rw[hr]
  clear h
  refine T ?_
  exact D
theorem Aj2 (a b:LineM) (ha:LineFin a) (hb:LineFin b):Sy.Spec Tryz.prog 411 [Al a,Al b] [] (Ab (Jd a b)) []:=cT F411 Tryz.ntmps411 fun F hF=>by
 have ht:=ha.t;have hi:=ha.i;have he:=ha.e;have haa:=ha.a
 have ht2:=hb.t;have hi2:=hb.i;have he2:=hb.e;have haa2:=hb.a
 have q0:=Jw a.tagged b.tagged z_ z_
 have q1:=Jw a.imports b.imports z_ z_
 have q2:=Jw a.exports b.exports z_ z_
 have q3:=Wa a.addrs b.addrs z_ z_
 rw[Jd]
 cases h_row:(a.row == b.row)
 ·rw[Bool.false_and]
  refine T ?_
  exact D
 rw[Bool.true_and]
 cases h_kind:(a.kind == b.kind)
 ·rw[Bool.false_and]
  refine T ?_
  exact D
 rw[Bool.true_and]
 cases h_dev:(a.dev == b.dev)
 ·rw[Bool.false_and]
  refine T ?_
  exact D
 rw[Bool.true_and]
 cases h_port:(a.port == b.port)
 ·rw[Bool.false_and]
  refine T ?_
  exact D
 rw[Bool.true_and]
 cases h_peer:(a.peer == b.peer)
 ·rw[Bool.false_and]
  refine T ?_
  exact D
 rw[Bool.true_and]
 cases h_far:(a.far == b.far)
 ·rw[Bool.false_and]
  refine T ?_
  exact D
 rw[Bool.true_and]
 cases h_name:(a.name == b.name)
 ·rw[Bool.false_and]
  refine T ?_
  exact D
 rw[Bool.true_and]
 cases h_mac:(a.mac == b.mac)
 ·rw[Bool.false_and]
  refine T ?_
  exact D
 rw[Bool.true_and]
 cases h_addr:(a.addr == b.addr)
 ·rw[Bool.false_and]
  refine T ?_
  exact D
 rw[Bool.true_and]
 cases h_bits:(a.bits == b.bits)
 ·rw[Bool.false_and]
  refine T ?_
  exact D
 rw[Bool.true_and]
 cases h_vlan:(a.vlan == b.vlan)
 ·rw[Bool.false_and]
  refine T ?_
  exact D
 rw[Bool.true_and]
 cases h_num:(a.num == b.num)
 ·rw[Bool.false_and]
  refine T ?_
  exact D
 rw[Bool.true_and]
 cases h_cost:(a.cost == b.cost)
 ·rw[Bool.false_and]
  refine T ?_
  exact D
 rw[Bool.true_and]
 cases h_tagged:(a.tagged == b.tagged)
 ·rw[h_tagged]at q0
  rw[Bool.false_and]
  refine T ?_
  refine C q0 F52 ?_
  exact D
 rw[h_tagged]at q0
 rw[Bool.true_and]
 cases h_imports:(a.imports == b.imports)
 ·rw[h_imports]at q1
  rw[Bool.false_and]
  refine T ?_
  refine C q0 F52 ?_
  refine C q1 F52 ?_
  exact D
 rw[h_imports]at q1
 rw[Bool.true_and]
 cases h_exports:(a.exports == b.exports)
 ·rw[h_exports]at q2
  rw[Bool.false_and]
  refine T ?_
  refine C q0 F52 ?_
  refine C q1 F52 ?_
  refine C q2 F52 ?_
  exact D
 rw[h_exports]at q2
 rw[Bool.true_and]
 cases h_addrs:(a.addrs == b.addrs)
 ·rw[h_addrs]at q3
  skip
  refine T ?_
  refine C q0 F52 ?_
  refine C q1 F52 ?_
  refine C q2 F52 ?_
  refine C q3 F57 ?_
  exact D
 rw[h_addrs]at q3
 refine T ?_
 refine C q0 F52 ?_
 refine C q1 F52 ?_
 refine C q2 F52 ?_
 refine C q3 F57 ?_
 exact D
theorem Ej (n lo hi:Int):Sy.Spec Tryz.prog 439 [Aa n,Aa lo,Aa hi] [] (Ab (Bz n lo hi)) []:=cT F439 Tryz.ntmps439 fun F hF=>by
 rw[Bz]
 by_cases h1:lo≤n
 ·have f1:decide (n≥lo)=true:=decide_eq_true h1
  rw[decide_eq_true h1,Bool.true_and]
  refine T ?_
  exact D
 ·have f1:decide (n≥lo)=false:=decide_eq_false h1
  rw[decide_eq_false h1,Bool.false_and]
  refine T ?_
  exact D
theorem Uk (l:List Int) (most:Int) (hl:l.length≤100000):Sy.Spec Tryz.prog 440 [.sl 1 Aa l,Aa most] [] (Ab (Du l most)) []:=cT F440 Tryz.ntmps440 fun F hF=>by
 have q:=Xq l 1 most (by simp only[At];omega)
 rw[Du,S9]
 by_cases h0:l.length=0
 ·rw[decide_eq_true h0,Bool.true_or]
  have f0:((l.length:Int) == 0)=true:=by rw[h0];rfl
  refine T ?_
  exact D
 ·rw[decide_eq_false h0,Bool.false_or]
  have f0:((l.length:Int) == 0)=false:=by rw[beq_eq_false_iff_ne];omega
  refine T ?_
  refine C q F180 ?_
  exact D
def O4 (l:List Int) (i:Nat) (x:Int):Bool:=decide (x≠0) && (i == 0 || decide (l.getD (i-1) 0<x))
theorem Aiu (l:List Int):Iu l=(Dt (O4 l) l && (decide (0<l.length) && decide (l.length≤16))):=by
 have e:(List.range l.length).all (fun i=>decide (l.getD i 0≠0) && (i == 0 || decide (l.getD (i-1) 0<l.getD i 0)))=Dt (O4 l) l:=by
  rw[Bool.eq_iff_iff,List.all_eq_true,allB_iff]
  constructor
  ·intro h i hi
   have:=h i (List.mem_range.2 hi)
   rw[show l.getD i 0=l[i] by rw[List.getD_eq_getElem?_getD,List.getElem?_eq_getElem hi];rfl]at this
   exact this
  ·intro h i hi
   have hi:=List.mem_range.1 hi
   rw[show l.getD i 0=l[i] by rw[List.getD_eq_getElem?_getD,List.getElem?_eq_getElem hi];rfl]
   exact h i hi
 rw[Iu,e]
theorem Agk (l:List Int) (hl:l.length≤100000):Sy.Spec Tryz.prog 441 [.sl 1 A3 l] [] (Ab (Iu l)) []:=cT F441 Tryz.ntmps441 fun F hF=>by
 have hres:=Aiu l
 generalize Iu l=r at *
 refine T ?_
 refine A2 l.length (fun j=>Da (O4 l) l j) (fun j=>[(0,.sl 1 A3 l),(5,.sl 1 A3 l),(6,Aa l.length),(7,Aa j)]) (fun _=>[]) [] (Av _ _) U ?_
 intro j hj hI
 refine T ?_
 refine⟨fun h=>?_,fun h=>?_⟩
 ·have hlt:j<l.length:=qA h
  have hlt0:((j:Nat):Int).toNat<l.length:=hlt
  have hno:=fun h=>Be (p:=O4 l) hlt h
  have hnx:=fun h=>Aq (p:=O4 l) hI hlt h
  clear h
  by_cases h1:l[j]=0
  ·have f1:(l[((j:Nat):Int).toNat]'hlt0 == 0)=true:=beq_iff_eq.2 h1
   rw[hno (by simp[O4,h1]),Bool.false_and]at hres
   subst hres
   refine T ?_
   exact D
  ·have f1:(l[((j:Nat):Int).toNat]'hlt0 == 0)=false:=beq_eq_false_iff_ne.2 h1
   by_cases h2:j=0
   ·subst h2
    refine T ?_
    exact Ba [] hI z_ (hnx (by simp[O4,h1])) U
   ·have f2:decide ((j:Int)>0)=true:=decide_eq_true z_
    have hk:((j:Int)-1).toNat<l.length:=by omega
    have hg:l.getD (j-1) 0=l[((j:Int)-1).toNat]'hk:=by
     rw[List.getD_eq_getElem?_getD,List.getElem?_eq_getElem (by omega:j-1<l.length)]
     have:((j:Int)-1).toNat=j-1:=by omega
     simp only[this]
     rfl
    have hx:O4 l j l[j]=(decide (l[j]≠0) && (j == 0 || decide (l.getD (j-1) 0<l[j]))):=rfl
    rw[hg]at hx
    by_cases h3:l[((j:Int)-1).toNat]'hk<l[j]
    ·have f3:decide (l[((j:Int)-1).toNat]'hk≥l[((j:Nat):Int).toNat]'hlt0)=false:=decide_eq_false (by show ¬ _≥l[j];omega)
     refine T ?_
     exact Ba [] hI z_ (hnx (by rw[hx,decide_eq_true h1,decide_eq_true h3,Bool.or_true];rfl)) U
    ·have f3:decide (l[((j:Int)-1).toNat]'hk≥l[((j:Nat):Int).toNat]'hlt0)=true:=decide_eq_true (by show _≥l[j];omega)
     rw[hno (by rw[hx,decide_eq_false h3,beq_eq_false_iff_ne.2 h2];simp),Bool.false_and]at hres
     subst hres
     refine T ?_
     exact D
 ·have hje:j=l.length:=qB h
  subst hje
  rw[Ci hI (Nat.le_refl _),Bool.true_and]at hres
  subst hres
  clear h
  by_cases h0:0<l.length
  ·rw[decide_eq_true h0,Bool.true_and]
   have f0:decide ((l.length:Int)>0)=true:=decide_eq_true z_
   refine T ?_
   refine Ar Y (.cons .tmp .nil) (congrArg Ab ?_) Y
   exact decide_eq_decide.2 z_
  ·rw[decide_eq_false h0,Bool.false_and]
   have f0:decide ((l.length:Int)>0)=false:=decide_eq_false z_
   refine T ?_
   exact D
structure LineW (l:LineM):Prop where
 fin:LineFin l
 ok:LineOK l
 dev:l.dev.size≤100000
 port:l.port.size≤100000
 peer:l.peer.size≤100000
 far:l.far.size≤100000
 name:l.name.size≤100000
theorem Af9 (l:LineM) (hw:LineW l) (hk:l.kind=1):Sy.Spec Tryz.prog 410 [Al l] [] (.tup [Al (A7 l).1,Ab (A7 l).2]) []:=cT F410 Tryz.ntmps410 fun F hF=>by
 have hU:A7 l=({ lineZ with row:=l.row,kind:=1,dev:=l.dev,num:=l.num,mac:=l.mac },(Bz l.num 0 65535 && statB l.mac)):=by
  simp only[A7,hk]
  rfl
 rw[hU]
 have q0:=Ej l.num 0 65535
 have q1:Sy.Spec Tryz.prog 301 [B4 l.mac] [] (Ab (statB l.mac)) []:=by
  have:=hw.ok.mac
  obtain ⟨m,hm1⟩:∃ m:Nat,l.mac=m:=⟨l.mac.toNat,by omega⟩
  rw[hm1];exact W4 m z_
 obtain ⟨row,kind,dev,port,peer,far,name,mac,addr,bits,vlan,num,cost,tagged,imports,exports,addrs⟩:=l
 dsimp only at hk q0 q1 ⊢
 subst hk
 clear hU hw
 generalize Bz num 0 65535=b0 at *
 generalize statB mac=b1 at *
 cases b0
 ·rw[Bool.false_and]
  refine T ?_
  refine C q0 F439 ?_
  refine Ag 2 (Bi { lineZ with row:=row,kind:=1,dev:=dev,num:=num,mac:=mac }) rfl (.cons (.refl _) (.cons (.refl _) (.cons (.refl _) (.cons (.refl _) (.cons (.refl _) (.cons (.refl _) (.cons (.refl _) (.cons (.refl _) (.cons (.refl _) (.cons (.refl _) (.cons (.refl _) (.cons (.refl _) (.cons (.refl _) (.cons .nil (.cons .nil (.cons .nil (.cons .nil .nil))))))))))))))))) ?_
  refine T ?_
  exact D
 rw[Bool.true_and]
 refine T ?_
 refine C q0 F439 ?_
 refine C q1 F301 ?_
 refine Ag 2 (Bi { lineZ with row:=row,kind:=1,dev:=dev,num:=num,mac:=mac }) rfl (.cons (.refl _) (.cons (.refl _) (.cons (.refl _) (.cons (.refl _) (.cons (.refl _) (.cons (.refl _) (.cons (.refl _) (.cons (.refl _) (.cons (.refl _) (.cons (.refl _) (.cons (.refl _) (.cons (.refl _) (.cons (.refl _) (.cons .nil (.cons .nil (.cons .nil (.cons .nil .nil))))))))))))))))) ?_
 refine T ?_
 exact D
theorem Af8 (l:LineM) (hw:LineW l) (hk:l.kind=2):Sy.Spec Tryz.prog 410 [Al l] [] (.tup [Al (A7 l).1,Ab (A7 l).2]) []:=cT F410 Tryz.ntmps410 fun F hF=>by
 have hU:A7 l=({ lineZ with row:=l.row,kind:=2,dev:=l.dev,port:=l.port,cost:=l.cost,vlan:=l.vlan,tagged:=l.tagged },(nameB l.port && (Bz l.cost 1 65535 && (Bz l.vlan 0 4094 && (Du l.tagged 4094 && membersB l.vlan l.tagged))))):=by
  simp only[A7,hk]
  rfl
 rw[hU]
 have q0:=Ij l.port (by have:=hw.port;omega)
 have q1:=Ej l.cost 1 65535
 have q2:=Ej l.vlan 0 4094
 have q3:=Uk l.tagged 4094 hw.fin.t
 have q4:=Ib l (by have:=hw.fin.t;simp only[At];omega)
 obtain ⟨row,kind,dev,port,peer,far,name,mac,addr,bits,vlan,num,cost,tagged,imports,exports,addrs⟩:=l
 dsimp only at hk q0 q1 q2 q3 q4 ⊢
 subst hk
 clear hU hw
 generalize nameB port=b0 at *
 generalize Bz cost 1 65535=b1 at *
 generalize Bz vlan 0 4094=b2 at *
 generalize Du tagged 4094=b3 at *
 generalize membersB vlan tagged=b4 at *
 cases b0
 ·rw[Bool.false_and]
  refine T ?_
  refine C q0 F299 ?_
  refine Ag 2 (Bi { lineZ with row:=row,kind:=2,dev:=dev,port:=port,cost:=cost,vlan:=vlan,tagged:=tagged }) rfl (.cons (.refl _) (.cons (.refl _) (.cons (.refl _) (.cons (.refl _) (.cons (.refl _) (.cons (.refl _) (.cons (.refl _) (.cons (.refl _) (.cons (.refl _) (.cons (.refl _) (.cons (.refl _) (.cons (.refl _) (.cons (.refl _) (.cons (.refl _) (.cons .nil (.cons .nil (.cons .nil .nil))))))))))))))))) ?_
  refine T ?_
  exact D
 rw[Bool.true_and]
 cases b1
 ·rw[Bool.false_and]
  refine T ?_
  refine C q0 F299 ?_
  refine C q1 F439 ?_
  refine Ag 2 (Bi { lineZ with row:=row,kind:=2,dev:=dev,port:=port,cost:=cost,vlan:=vlan,tagged:=tagged }) rfl (.cons (.refl _) (.cons (.refl _) (.cons (.refl _) (.cons (.refl _) (.cons (.refl _) (.cons (.refl _) (.cons (.refl _) (.cons (.refl _) (.cons (.refl _) (.cons (.refl _) (.cons (.refl _) (.cons (.refl _) (.cons (.refl _) (.cons (.refl _) (.cons .nil (.cons .nil (.cons .nil .nil))))))))))))))))) ?_
  refine T ?_
  exact D
 rw[Bool.true_and]
 cases b2
 ·rw[Bool.false_and]
  refine T ?_
  refine C q0 F299 ?_
  refine C q1 F439 ?_
  refine C q2 F439 ?_
  refine Ag 2 (Bi { lineZ with row:=row,kind:=2,dev:=dev,port:=port,cost:=cost,vlan:=vlan,tagged:=tagged }) rfl (.cons (.refl _) (.cons (.refl _) (.cons (.refl _) (.cons (.refl _) (.cons (.refl _) (.cons (.refl _) (.cons (.refl _) (.cons (.refl _) (.cons (.refl _) (.cons (.refl _) (.cons (.refl _) (.cons (.refl _) (.cons (.refl _) (.cons (.refl _) (.cons .nil (.cons .nil (.cons .nil .nil))))))))))))))))) ?_
  refine T ?_
  exact D
 rw[Bool.true_and]
 cases b3
 ·rw[Bool.false_and]
  refine T ?_
  refine C q0 F299 ?_
  refine C q1 F439 ?_
  refine C q2 F439 ?_
  refine C q3 F440 ?_
  refine Ag 2 (Bi { lineZ with row:=row,kind:=2,dev:=dev,port:=port,cost:=cost,vlan:=vlan,tagged:=tagged }) rfl (.cons (.refl _) (.cons (.refl _) (.cons (.refl _) (.cons (.refl _) (.cons (.refl _) (.cons (.refl _) (.cons (.refl _) (.cons (.refl _) (.cons (.refl _) (.cons (.refl _) (.cons (.refl _) (.cons (.refl _) (.cons (.refl _) (.cons (.refl _) (.cons .nil (.cons .nil (.cons .nil .nil))))))))))))))))) ?_
  refine T ?_
  exact D
 rw[Bool.true_and]
 refine T ?_
 refine C q0 F299 ?_
 refine C q1 F439 ?_
 refine C q2 F439 ?_
 refine C q3 F440 ?_
 refine C q4 F302 ?_
 refine Ag 2 (Bi { lineZ with row:=row,kind:=2,dev:=dev,port:=port,cost:=cost,vlan:=vlan,tagged:=tagged }) rfl (.cons (.refl _) (.cons (.refl _) (.cons (.refl _) (.cons (.refl _) (.cons (.refl _) (.cons (.refl _) (.cons (.refl _) (.cons (.refl _) (.cons (.refl _) (.cons (.refl _) (.cons (.refl _) (.cons (.refl _) (.cons (.refl _) (.cons (.refl _) (.cons .nil (.cons .nil (.cons .nil .nil))))))))))))))))) ?_
 refine T ?_
 exact D
theorem Af7 (l:LineM) (hw:LineW l) (hk:l.kind=3):Sy.Spec Tryz.prog 410 [Al l] [] (.tup [Al (A7 l).1,Ab (A7 l).2]) []:=cT F410 Tryz.ntmps410 fun F hF=>by
 have hU:A7 l=({ lineZ with row:=l.row,kind:=3,dev:=l.dev,port:=l.port,peer:=l.peer,far:=l.far },(nameB l.port && (nameB l.peer && nameB l.far))):=by
  simp only[A7,hk]
  rfl
 rw[hU]
 have q0:=Ij l.port (by have:=hw.port;omega)
 have q1:=Ij l.peer (by have:=hw.peer;omega)
 have q2:=Ij l.far (by have:=hw.far;omega)
 obtain ⟨row,kind,dev,port,peer,far,name,mac,addr,bits,vlan,num,cost,tagged,imports,exports,addrs⟩:=l
 dsimp only at hk q0 q1 q2 ⊢
 subst hk
 clear hU hw
 generalize nameB port=b0 at *
 generalize nameB peer=b1 at *
 generalize nameB far=b2 at *
 cases b0
 ·rw[Bool.false_and]
  refine T ?_
  refine C q0 F299 ?_
  refine Ag 2 (Bi { lineZ with row:=row,kind:=3,dev:=dev,port:=port,peer:=peer,far:=far }) rfl (.cons (.refl _) (.cons (.refl _) (.cons (.refl _) (.cons (.refl _) (.cons (.refl _) (.cons (.refl _) (.cons (.refl _) (.cons (.refl _) (.cons (.refl _) (.cons (.refl _) (.cons (.refl _) (.cons (.refl _) (.cons (.refl _) (.cons .nil (.cons .nil (.cons .nil (.cons .nil .nil))))))))))))))))) ?_
  refine T ?_
  exact D
 rw[Bool.true_and]
 cases b1
 ·rw[Bool.false_and]
  refine T ?_
  refine C q0 F299 ?_
  refine C q1 F299 ?_
  refine Ag 2 (Bi { lineZ with row:=row,kind:=3,dev:=dev,port:=port,peer:=peer,far:=far }) rfl (.cons (.refl _) (.cons (.refl _) (.cons (.refl _) (.cons (.refl _) (.cons (.refl _) (.cons (.refl _) (.cons (.refl _) (.cons (.refl _) (.cons (.refl _) (.cons (.refl _) (.cons (.refl _) (.cons (.refl _) (.cons (.refl _) (.cons .nil (.cons .nil (.cons .nil (.cons .nil .nil))))))))))))))))) ?_
  refine T ?_
  exact D
 rw[Bool.true_and]
 refine T ?_
 refine C q0 F299 ?_
 refine C q1 F299 ?_
 refine C q2 F299 ?_
 refine Ag 2 (Bi { lineZ with row:=row,kind:=3,dev:=dev,port:=port,peer:=peer,far:=far }) rfl (.cons (.refl _) (.cons (.refl _) (.cons (.refl _) (.cons (.refl _) (.cons (.refl _) (.cons (.refl _) (.cons (.refl _) (.cons (.refl _) (.cons (.refl _) (.cons (.refl _) (.cons (.refl _) (.cons (.refl _) (.cons (.refl _) (.cons .nil (.cons .nil (.cons .nil (.cons .nil .nil))))))))))))))))) ?_
 refine T ?_
 exact D
theorem Af6 (l:LineM) (hw:LineW l) (hk:l.kind=4):Sy.Spec Tryz.prog 410 [Al l] [] (.tup [Al (A7 l).1,Ab (A7 l).2]) []:=cT F410 Tryz.ntmps410 fun F hF=>by
 have hU:A7 l=({ lineZ with row:=l.row,kind:=4,dev:=l.dev,vlan:=l.vlan,mac:=l.mac,port:=l.port },(Bz l.vlan 1 4094 && (statB l.mac && nameB l.port))):=by
  simp only[A7,hk]
  rfl
 rw[hU]
 have q0:=Ej l.vlan 1 4094
 have q1:Sy.Spec Tryz.prog 301 [B4 l.mac] [] (Ab (statB l.mac)) []:=by
  have:=hw.ok.mac
  obtain ⟨m,hm1⟩:∃ m:Nat,l.mac=m:=⟨l.mac.toNat,by omega⟩
  rw[hm1];exact W4 m z_
 have q2:=Ij l.port (by have:=hw.port;omega)
 obtain ⟨row,kind,dev,port,peer,far,name,mac,addr,bits,vlan,num,cost,tagged,imports,exports,addrs⟩:=l
 dsimp only at hk q0 q1 q2 ⊢
 subst hk
 clear hU hw
 generalize Bz vlan 1 4094=b0 at *
 generalize statB mac=b1 at *
 generalize nameB port=b2 at *
 cases b0
 ·rw[Bool.false_and]
  refine T ?_
  refine C q0 F439 ?_
  refine Ag 2 (Bi { lineZ with row:=row,kind:=4,dev:=dev,vlan:=vlan,mac:=mac,port:=port }) rfl (.cons (.refl _) (.cons (.refl _) (.cons (.refl _) (.cons (.refl _) (.cons (.refl _) (.cons (.refl _) (.cons (.refl _) (.cons (.refl _) (.cons (.refl _) (.cons (.refl _) (.cons (.refl _) (.cons (.refl _) (.cons (.refl _) (.cons .nil (.cons .nil (.cons .nil (.cons .nil .nil))))))))))))))))) ?_
  refine T ?_
  exact D
 rw[Bool.true_and]
 cases b1
 ·rw[Bool.false_and]
  refine T ?_
  refine C q0 F439 ?_
  refine C q1 F301 ?_
  refine Ag 2 (Bi { lineZ with row:=row,kind:=4,dev:=dev,vlan:=vlan,mac:=mac,port:=port }) rfl (.cons (.refl _) (.cons (.refl _) (.cons (.refl _) (.cons (.refl _) (.cons (.refl _) (.cons (.refl _) (.cons (.refl _) (.cons (.refl _) (.cons (.refl _) (.cons (.refl _) (.cons (.refl _) (.cons (.refl _) (.cons (.refl _) (.cons .nil (.cons .nil (.cons .nil (.cons .nil .nil))))))))))))))))) ?_
  refine T ?_
  exact D
 rw[Bool.true_and]
 refine T ?_
 refine C q0 F439 ?_
 refine C q1 F301 ?_
 refine C q2 F299 ?_
 refine Ag 2 (Bi { lineZ with row:=row,kind:=4,dev:=dev,vlan:=vlan,mac:=mac,port:=port }) rfl (.cons (.refl _) (.cons (.refl _) (.cons (.refl _) (.cons (.refl _) (.cons (.refl _) (.cons (.refl _) (.cons (.refl _) (.cons (.refl _) (.cons (.refl _) (.cons (.refl _) (.cons (.refl _) (.cons (.refl _) (.cons (.refl _) (.cons .nil (.cons .nil (.cons .nil (.cons .nil .nil))))))))))))))))) ?_
 refine T ?_
 exact D
theorem Af4 (l:LineM) (hw:LineW l) (hk:l.kind=6):Sy.Spec Tryz.prog 410 [Al l] [] (.tup [Al (A7 l).1,Ab (A7 l).2]) []:=cT F410 Tryz.ntmps410 fun F hF=>by
 have hU:A7 l=({ lineZ with row:=l.row,kind:=6,dev:=l.dev,vlan:=l.vlan,num:=l.num },(Bz l.vlan 1 4094 && Bz l.num 1 16777215)):=by
  simp only[A7,hk]
  rfl
 rw[hU]
 have q0:=Ej l.vlan 1 4094
 have q1:=Ej l.num 1 16777215
 obtain ⟨row,kind,dev,port,peer,far,name,mac,addr,bits,vlan,num,cost,tagged,imports,exports,addrs⟩:=l
 dsimp only at hk q0 q1 ⊢
 subst hk
 clear hU hw
 generalize Bz vlan 1 4094=b0 at *
 generalize Bz num 1 16777215=b1 at *
 cases b0
 ·rw[Bool.false_and]
  refine T ?_
  refine C q0 F439 ?_
  refine Ag 2 (Bi { lineZ with row:=row,kind:=6,dev:=dev,vlan:=vlan,num:=num }) rfl (.cons (.refl _) (.cons (.refl _) (.cons (.refl _) (.cons (.refl _) (.cons (.refl _) (.cons (.refl _) (.cons (.refl _) (.cons (.refl _) (.cons (.refl _) (.cons (.refl _) (.cons (.refl _) (.cons (.refl _) (.cons (.refl _) (.cons .nil (.cons .nil (.cons .nil (.cons .nil .nil))))))))))))))))) ?_
  refine T ?_
  exact D
 rw[Bool.true_and]
 refine T ?_
 refine C q0 F439 ?_
 refine C q1 F439 ?_
 refine Ag 2 (Bi { lineZ with row:=row,kind:=6,dev:=dev,vlan:=vlan,num:=num }) rfl (.cons (.refl _) (.cons (.refl _) (.cons (.refl _) (.cons (.refl _) (.cons (.refl _) (.cons (.refl _) (.cons (.refl _) (.cons (.refl _) (.cons (.refl _) (.cons (.refl _) (.cons (.refl _) (.cons (.refl _) (.cons (.refl _) (.cons .nil (.cons .nil (.cons .nil (.cons .nil .nil))))))))))))))))) ?_
 refine T ?_
 exact D
theorem Af3 (l:LineM) (hw:LineW l) (hk:l.kind=7):Sy.Spec Tryz.prog 410 [Al l] [] (.tup [Al (A7 l).1,Ab (A7 l).2]) []:=cT F410 Tryz.ntmps410 fun F hF=>by
 have hU:A7 l=({ lineZ with row:=l.row,kind:=7,dev:=l.dev,num:=l.num,addrs:=l.addrs },(Bz l.num 1 16777215 && Iu l.addrs)):=by
  simp only[A7,hk]
  rfl
 rw[hU]
 have q0:=Ej l.num 1 16777215
 have q1:=Agk l.addrs hw.fin.a
 obtain ⟨row,kind,dev,port,peer,far,name,mac,addr,bits,vlan,num,cost,tagged,imports,exports,addrs⟩:=l
 dsimp only at hk q0 q1 ⊢
 subst hk
 clear hU hw
 generalize Bz num 1 16777215=b0 at *
 generalize Iu addrs=b1 at *
 cases b0
 ·rw[Bool.false_and]
  refine T ?_
  refine C q0 F439 ?_
  refine Ag 2 (Bi { lineZ with row:=row,kind:=7,dev:=dev,num:=num,addrs:=addrs }) rfl (.cons (.refl _) (.cons (.refl _) (.cons (.refl _) (.cons (.refl _) (.cons (.refl _) (.cons (.refl _) (.cons (.refl _) (.cons (.refl _) (.cons (.refl _) (.cons (.refl _) (.cons (.refl _) (.cons (.refl _) (.cons (.refl _) (.cons .nil (.cons .nil (.cons .nil (.cons (.refl _) .nil))))))))))))))))) ?_
  refine T ?_
  exact D
 rw[Bool.true_and]
 refine T ?_
 refine C q0 F439 ?_
 refine C q1 F441 ?_
 refine Ag 2 (Bi { lineZ with row:=row,kind:=7,dev:=dev,num:=num,addrs:=addrs }) rfl (.cons (.refl _) (.cons (.refl _) (.cons (.refl _) (.cons (.refl _) (.cons (.refl _) (.cons (.refl _) (.cons (.refl _) (.cons (.refl _) (.cons (.refl _) (.cons (.refl _) (.cons (.refl _) (.cons (.refl _) (.cons (.refl _) (.cons .nil (.cons .nil (.cons .nil (.cons (.refl _) .nil))))))))))))))))) ?_
 refine T ?_
 exact D
theorem Af2 (l:LineM) (hw:LineW l) (hk:l.kind=8):Sy.Spec Tryz.prog 410 [Al l] [] (.tup [Al (A7 l).1,Ab (A7 l).2]) []:=cT F410 Tryz.ntmps410 fun F hF=>by
 have hU:A7 l=({ lineZ with row:=l.row,kind:=8,dev:=l.dev,name:=l.name,imports:=l.imports,exports:=l.exports },(nameB l.name && (Du l.imports 65535 && Du l.exports 65535))):=by
  simp only[A7,hk]
  rfl
 rw[hU]
 have q0:=Ij l.name (by have:=hw.name;omega)
 have q1:=Uk l.imports 65535 hw.fin.i
 have q2:=Uk l.exports 65535 hw.fin.e
 obtain ⟨row,kind,dev,port,peer,far,name,mac,addr,bits,vlan,num,cost,tagged,imports,exports,addrs⟩:=l
 dsimp only at hk q0 q1 q2 ⊢
 subst hk
 clear hU hw
 generalize nameB name=b0 at *
 generalize Du imports 65535=b1 at *
 generalize Du exports 65535=b2 at *
 cases b0
 ·rw[Bool.false_and]
  refine T ?_
  refine C q0 F299 ?_
  refine Ag 2 (Bi { lineZ with row:=row,kind:=8,dev:=dev,name:=name,imports:=imports,exports:=exports }) rfl (.cons (.refl _) (.cons (.refl _) (.cons (.refl _) (.cons (.refl _) (.cons (.refl _) (.cons (.refl _) (.cons (.refl _) (.cons (.refl _) (.cons (.refl _) (.cons (.refl _) (.cons (.refl _) (.cons (.refl _) (.cons (.refl _) (.cons .nil (.cons (.refl _) (.cons (.refl _) (.cons .nil .nil))))))))))))))))) ?_
  refine T ?_
  exact D
 rw[Bool.true_and]
 cases b1
 ·rw[Bool.false_and]
  refine T ?_
  refine C q0 F299 ?_
  refine C q1 F440 ?_
  refine Ag 2 (Bi { lineZ with row:=row,kind:=8,dev:=dev,name:=name,imports:=imports,exports:=exports }) rfl (.cons (.refl _) (.cons (.refl _) (.cons (.refl _) (.cons (.refl _) (.cons (.refl _) (.cons (.refl _) (.cons (.refl _) (.cons (.refl _) (.cons (.refl _) (.cons (.refl _) (.cons (.refl _) (.cons (.refl _) (.cons (.refl _) (.cons .nil (.cons (.refl _) (.cons (.refl _) (.cons .nil .nil))))))))))))))))) ?_
  refine T ?_
  exact D
 rw[Bool.true_and]
 refine T ?_
 refine C q0 F299 ?_
 refine C q1 F440 ?_
 refine C q2 F440 ?_
 refine Ag 2 (Bi { lineZ with row:=row,kind:=8,dev:=dev,name:=name,imports:=imports,exports:=exports }) rfl (.cons (.refl _) (.cons (.refl _) (.cons (.refl _) (.cons (.refl _) (.cons (.refl _) (.cons (.refl _) (.cons (.refl _) (.cons (.refl _) (.cons (.refl _) (.cons (.refl _) (.cons (.refl _) (.cons (.refl _) (.cons (.refl _) (.cons .nil (.cons (.refl _) (.cons (.refl _) (.cons .nil .nil))))))))))))))))) ?_
 refine T ?_
 exact D
theorem Af1 (l:LineM) (hw:LineW l) (hk:l.kind=9):Sy.Spec Tryz.prog 410 [Al l] [] (.tup [Al (A7 l).1,Ab (A7 l).2]) []:=cT F410 Tryz.ntmps410 fun F hF=>by
 have hU:A7 l=({ lineZ with row:=l.row,kind:=9,dev:=l.dev,vlan:=l.vlan,name:=l.name,addr:=l.addr,bits:=l.bits },(Bz l.vlan 1 4094 && (nameB l.name && subnetB l.addr l.bits))):=by
  simp only[A7,hk]
  rfl
 rw[hU]
 have q0:=Ej l.vlan 1 4094
 have q1:=Ij l.name (by have:=hw.name;omega)
 have q2:Sy.Spec Tryz.prog 243 [Di l.addr l.bits] [] (Ab (subnetB l.addr l.bits)) []:=by
  have:=hw.ok.addr
  obtain ⟨m,hm1⟩:∃ m:Nat,l.addr=m:=⟨l.addr.toNat,by omega⟩
  rw[hm1];exact Ve m l.bits z_
 obtain ⟨row,kind,dev,port,peer,far,name,mac,addr,bits,vlan,num,cost,tagged,imports,exports,addrs⟩:=l
 dsimp only at hk q0 q1 q2 ⊢
 subst hk
 clear hU hw
 generalize Bz vlan 1 4094=b0 at *
 generalize nameB name=b1 at *
 generalize subnetB addr bits=b2 at *
 cases b0
 ·rw[Bool.false_and]
  refine T ?_
  refine C q0 F439 ?_
  refine Ag 2 (Bi { lineZ with row:=row,kind:=9,dev:=dev,vlan:=vlan,name:=name,addr:=addr,bits:=bits }) rfl (.cons (.refl _) (.cons (.refl _) (.cons (.refl _) (.cons (.refl _) (.cons (.refl _) (.cons (.refl _) (.cons (.refl _) (.cons (.refl _) (.cons (.refl _) (.cons (.refl _) (.cons (.refl _) (.cons (.refl _) (.cons (.refl _) (.cons .nil (.cons .nil (.cons .nil (.cons .nil .nil))))))))))))))))) ?_
  refine T ?_
  exact D
 rw[Bool.true_and]
 cases b1
 ·rw[Bool.false_and]
  refine T ?_
  refine C q0 F439 ?_
  refine C q1 F299 ?_
  refine Ag 2 (Bi { lineZ with row:=row,kind:=9,dev:=dev,vlan:=vlan,name:=name,addr:=addr,bits:=bits }) rfl (.cons (.refl _) (.cons (.refl _) (.cons (.refl _) (.cons (.refl _) (.cons (.refl _) (.cons (.refl _) (.cons (.refl _) (.cons (.refl _) (.cons (.refl _) (.cons (.refl _) (.cons (.refl _) (.cons (.refl _) (.cons (.refl _) (.cons .nil (.cons .nil (.cons .nil (.cons .nil .nil))))))))))))))))) ?_
  refine T ?_
  exact D
 rw[Bool.true_and]
 refine T ?_
 refine C q0 F439 ?_
 refine C q1 F299 ?_
 refine C q2 F243 ?_
 refine Ag 2 (Bi { lineZ with row:=row,kind:=9,dev:=dev,vlan:=vlan,name:=name,addr:=addr,bits:=bits }) rfl (.cons (.refl _) (.cons (.refl _) (.cons (.refl _) (.cons (.refl _) (.cons (.refl _) (.cons (.refl _) (.cons (.refl _) (.cons (.refl _) (.cons (.refl _) (.cons (.refl _) (.cons (.refl _) (.cons (.refl _) (.cons (.refl _) (.cons .nil (.cons .nil (.cons .nil (.cons .nil .nil))))))))))))))))) ?_
 refine T ?_
 exact D
theorem Af5 (l:LineM) (hw:LineW l) (hk:l.kind=5):Sy.Spec Tryz.prog 410 [Al l] [] (.tup [Al (A7 l).1,Ab (A7 l).2]) []:=cT F410 Tryz.ntmps410 fun F hF=>by
 have hU:A7 l=({ lineZ with row:=l.row,kind:=5,dev:=l.dev,addr:=l.addr },decide (l.addr≠0)):=by
  simp only[A7,hk]
  rfl
 rw[hU]
 obtain ⟨row,kind,dev,port,peer,far,name,mac,addr,bits,vlan,num,cost,tagged,imports,exports,addrs⟩:=l
 dsimp only at hk ⊢
 subst hk
 clear hU hw
 have hb:decide (addr≠0)=(addr != 0):=by
  by_cases h:addr=0
  ·rw[h];rfl
  ·rw[decide_eq_true h,bne_iff_ne.2 h]
 rw[hb]
 refine T ?_
 refine Ag 2 (Bi { lineZ with row:=row,kind:=5,dev:=dev,addr:=addr }) rfl (.cons (.refl _) (.cons (.refl _) (.cons (.refl _) (.cons (.refl _) (.cons (.refl _) (.cons (.refl _) (.cons (.refl _) (.cons (.refl _) (.cons (.refl _) (.cons (.refl _) (.cons (.refl _) (.cons (.refl _) (.cons (.refl _) (.cons .nil (.cons .nil (.cons .nil (.cons .nil .nil))))))))))))))))) ?_
 refine T ?_
 exact D
theorem Aga (l:LineM) (hk:¬ (1≤l.kind∧l.kind≤9)):Sy.Spec Tryz.prog 410 [Al l] [] (.tup [Al (A7 l).1,Ab (A7 l).2]) []:=cT F410 Tryz.ntmps410 fun F hF=>by
 have n1:¬ l.kind=1:=by omega
 have f1:(l.kind == 1)=false:=beq_eq_false_iff_ne.2 n1
 have n2:¬ l.kind=2:=by omega
 have f2:(l.kind == 2)=false:=beq_eq_false_iff_ne.2 n2
 have n3:¬ l.kind=3:=by omega
 have f3:(l.kind == 3)=false:=beq_eq_false_iff_ne.2 n3
 have n4:¬ l.kind=4:=by omega
 have f4:(l.kind == 4)=false:=beq_eq_false_iff_ne.2 n4
 have n5:¬ l.kind=5:=by omega
 have f5:(l.kind == 5)=false:=beq_eq_false_iff_ne.2 n5
 have n6:¬ l.kind=6:=by omega
 have f6:(l.kind == 6)=false:=beq_eq_false_iff_ne.2 n6
 have n7:¬ l.kind=7:=by omega
 have f7:(l.kind == 7)=false:=beq_eq_false_iff_ne.2 n7
 have n8:¬ l.kind=8:=by omega
 have f8:(l.kind == 8)=false:=beq_eq_false_iff_ne.2 n8
 have n9:¬ l.kind=9:=by omega
 have f9:(l.kind == 9)=false:=beq_eq_false_iff_ne.2 n9
 have hU:A7 l=({ lineZ with row:=l.row,kind:=l.kind,dev:=l.dev },false):=by
  simp only[A7,if_neg n1,if_neg n2,if_neg n3,if_neg n4,if_neg n5,if_neg n6,if_neg n7,if_neg n8,if_neg n9]
 rw[hU]
 refine T ?_
 refine Ag 2 (Bi { lineZ with row:=l.row,kind:=l.kind,dev:=l.dev }) rfl (.cons (.refl _) (.cons (.refl _) (.cons (.refl _) (.cons (.refl _) (.cons (.refl _) (.cons (.refl _) (.cons (.refl _) (.cons (.refl _) (.cons (.refl _) (.cons (.refl _) (.cons (.refl _) (.cons (.refl _) (.cons (.refl _) (.cons .nil (.cons .nil (.cons .nil (.cons .nil .nil))))))))))))))))) ?_
 refine T ?_
 exact D
theorem Aj0 (l:LineM) (hw:LineW l):Sy.Spec Tryz.prog 410 [Al l] [] (.tup [Al (A7 l).1,Ab (A7 l).2]) []:=by
 by_cases hk:1≤l.kind∧l.kind≤9
 ·rcases (by omega:l.kind=1∨l.kind=2∨l.kind=3∨l.kind=4∨l.kind=5∨l.kind=6∨l.kind=7∨l.kind=8∨l.kind=9) with h | h | h | h | h | h | h | h | h
  ·exact Af9 l hw h
  ·exact Af8 l hw h
  ·exact Af7 l hw h
  ·exact Af6 l hw h
  ·exact Af5 l hw h
  ·exact Af4 l hw h
  ·exact Af3 l hw h
  ·exact Af2 l hw h
  ·exact Af1 l hw h
 ·exact Aga l hk
theorem Aju {l:LineM} (h:LineFin l):LineFin (A7 l).1:=by
 have ht:=h.t;have hi:=h.i;have he:=h.e;have haa:=h.a
 unfold A7
 dsimp only
 repeat' split
 all_goals exact⟨by first | exact ht | (show 0≤100000;decide),by first | exact hi | (show 0≤100000;decide),by first | exact he | (show 0≤100000;decide),by first | exact haa | (show 0≤100000;decide)⟩
theorem I0 (l:LineM) (hw:LineW l):Sy.Spec Tryz.prog 343 [Al l] [] (Ab (B1 l)) []:=cT F343 Tryz.ntmps343 fun F hF=>by
 have q1:=Aj0 l hw
 have q2:=Ij l.dev (by have:=hw.dev;omega)
 have q3:=Aj2 (A7 l).1 l (Aju hw.fin) hw.fin
 rw[B1]
 generalize A7 l=u at *
 obtain ⟨ul,ub⟩:=u
 dsimp only at q1 q3 ⊢
 cases ub
 ·rw[Bool.false_and]
  refine T ?_
  refine C q1 F410 ?_
  exact D
 rw[Bool.true_and]
 cases hn:nameB l.dev
 ·rw[hn]at q2
  rw[Bool.false_and]
  refine T ?_
  refine C q1 F410 ?_
  refine C q2 F299 ?_
  exact D
 rw[hn]at q2
 rw[Bool.true_and]
 refine T ?_
 refine C q1 F410 ?_
 refine C q2 F299 ?_
 refine C q3 F411 ?_
 exact D
end Go.Sy.YtjenpnjajjplkaaGreatDoor
namespace Go.Sy.YtjenpnjajjplkaaGreatDoor
open Go.Proofs
attribute [local irreducible] Go.Sy.G Go.Sy.DR
set_option maxRecDepth 20000
set_option maxHeartbeats 4000000
theorem Io (l:List Device) (p:Device→Bool) (f:FuncId) (first cap:List SV) (hc:(SV.clo (.func f) first cap).inn []=true) (hf:∀ x∈l,Jz Tryz.prog f (first++[Az x]++cap) (Ab (p x))) (hl:At l) :
  Sy.Spec Tryz.prog 165 [.sl 5 Az l,.clo (.func f) first cap] [] (Aa (Dl p l)) []:=cT F165 Tryz.ntmps165 fun F hF=>by
 unfold At at hl
 have hin:∀ x:Device,C6 [] (first++[Az x]++cap)=true:=fun x=>Er hc rfl
 ((conv=>whnf);repeat((first|refine aF ?_|refine aT ?_);(first|refine rG Γ hm ?_|refine rD Γ hm j_ ?_);conv=>whnf))
 refine A2 l.length (fun j=>Da (fun _ x=>!(p x)) l j) (fun j=>[(0,.sl 5 Az l),(1,.clo (.func f) first cap),(7,Aa l.length),(8,Aa j)]) (fun _=>[]) [] (Av _ _) ⟨⟨Y,Y,B7 _,hc,Y,Y,Y,Y,q_⟩,q_,Y,Y⟩ ?_
 intro j hj hI
 ((first|refine rG Γ hm ?_|refine rD Γ hm j_ ?_);(conv=>whnf);repeat((first|refine aF ?_|refine aT ?_);(first|refine rG Γ hm ?_|refine rD Γ hm j_ ?_);conv=>whnf))
 refine⟨fun h=>?_,fun h=>?_⟩
 ·have h:=of_decide_eq_true h
  have hj2:j<l.length:=by omega
  ((first|refine rG Γ hm ?_|refine rD Γ hm j_ ?_);(conv=>whnf);repeat((first|refine aF ?_|refine aT ?_);(first|refine rG Γ hm ?_|refine rD Γ hm j_ ?_);conv=>whnf))
  refine⟨Y,by omega,by omega,?_⟩
  ((conv=>whnf);repeat((first|refine aF ?_|refine aT ?_);(first|refine rG Γ hm ?_|refine rD Γ hm j_ ?_);conv=>whnf))
  refine Jq (hf l[j] (List.getElem_mem hj2)) Y Y Y (by simp only[hin];rfl) Y Y ?_
  ((first|refine rG Γ hm ?_|refine rD Γ hm j_ ?_);(conv=>whnf);repeat((first|refine aF ?_|refine aT ?_);(first|refine rG Γ hm ?_|refine rD Γ hm j_ ?_);conv=>whnf))
  refine⟨fun h2=>?_,fun h2=>?_⟩
  ·((first|refine rG Γ hm ?_|refine rD Γ hm j_ ?_);(conv=>whnf);repeat((first|refine aF ?_|refine aT ?_);(first|refine rG Γ hm ?_|refine rD Γ hm j_ ?_);conv=>whnf))
   refine Ar Y (.cons .tmp .nil) (congrArg Aa ?_) Y
   exact Ck hj2 (fun i hi hij=>by simpa using hI i hi hij) h2
  ·((first|refine rG Γ hm ?_|refine rD Γ hm j_ ?_);(conv=>whnf);repeat((first|refine aF ?_|refine aT ?_);(first|refine rG Γ hm ?_|refine rD Γ hm j_ ?_);conv=>whnf))
   refine iL ?_
   ((conv=>whnf);repeat((first|refine aF ?_|refine aT ?_);(first|refine rG Γ hm ?_|refine rD Γ hm j_ ?_);conv=>whnf))
   exact Ba [] hI hj2 (Aq hI hj2 (by simp[h2])) ⟨⟨Y,Y,B7 _,hc,Y,Y,Y,Y,q_⟩,q_,Y,Y⟩
 ·have h:=of_decide_eq_false h
  ((first|refine rG Γ hm ?_|refine rD Γ hm j_ ?_);(conv=>whnf);repeat((first|refine aF ?_|refine aT ?_);(first|refine rG Γ hm ?_|refine rD Γ hm j_ ?_);conv=>whnf))
  refine Ar Y (.cons .tmp .nil) (congrArg Aa ?_) Y
  exact C2 (fun i hi=>by simpa using hI i hi z_)
theorem U2 (l:List Flood) (p:Flood→Bool) (f:FuncId) (first cap:List SV) (hc:(SV.clo (.func f) first cap).inn []=true) (hf:∀ x∈l,Jz Tryz.prog f (first++[A4 x]++cap) (Ab (p x))) (hl:At l) :
  Sy.Spec Tryz.prog 161 [.sl 4 A4 l,.clo (.func f) first cap] [] (Aa (Dl p l)) []:=cT F161 Tryz.ntmps161 fun F hF=>by
 unfold At at hl
 have hin:∀ x:Flood,C6 [] (first++[A4 x]++cap)=true:=fun x=>Er hc rfl
 ((conv=>whnf);repeat((first|refine aF ?_|refine aT ?_);(first|refine rG Γ hm ?_|refine rD Γ hm j_ ?_);conv=>whnf))
 refine A2 l.length (fun j=>Da (fun _ x=>!(p x)) l j) (fun j=>[(0,.sl 4 A4 l),(1,.clo (.func f) first cap),(7,Aa l.length),(8,Aa j)]) (fun _=>[]) [] (Av _ _) ⟨⟨Y,Y,B7 _,hc,Y,Y,Y,Y,q_⟩,q_,Y,Y⟩ ?_
 intro j hj hI
 ((first|refine rG Γ hm ?_|refine rD Γ hm j_ ?_);(conv=>whnf);repeat((first|refine aF ?_|refine aT ?_);(first|refine rG Γ hm ?_|refine rD Γ hm j_ ?_);conv=>whnf))
 refine⟨fun h=>?_,fun h=>?_⟩
 ·have h:=of_decide_eq_true h
  have hj2:j<l.length:=by omega
  ((first|refine rG Γ hm ?_|refine rD Γ hm j_ ?_);(conv=>whnf);repeat((first|refine aF ?_|refine aT ?_);(first|refine rG Γ hm ?_|refine rD Γ hm j_ ?_);conv=>whnf))
  refine⟨Y,by omega,by omega,?_⟩
  ((conv=>whnf);repeat((first|refine aF ?_|refine aT ?_);(first|refine rG Γ hm ?_|refine rD Γ hm j_ ?_);conv=>whnf))
  refine Jq (hf l[j] (List.getElem_mem hj2)) Y Y Y (by simp only[hin];rfl) Y Y ?_
  ((first|refine rG Γ hm ?_|refine rD Γ hm j_ ?_);(conv=>whnf);repeat((first|refine aF ?_|refine aT ?_);(first|refine rG Γ hm ?_|refine rD Γ hm j_ ?_);conv=>whnf))
  refine⟨fun h2=>?_,fun h2=>?_⟩
  ·((first|refine rG Γ hm ?_|refine rD Γ hm j_ ?_);(conv=>whnf);repeat((first|refine aF ?_|refine aT ?_);(first|refine rG Γ hm ?_|refine rD Γ hm j_ ?_);conv=>whnf))
   refine Ar Y (.cons .tmp .nil) (congrArg Aa ?_) Y
   exact Ck hj2 (fun i hi hij=>by simpa using hI i hi hij) h2
  ·((first|refine rG Γ hm ?_|refine rD Γ hm j_ ?_);(conv=>whnf);repeat((first|refine aF ?_|refine aT ?_);(first|refine rG Γ hm ?_|refine rD Γ hm j_ ?_);conv=>whnf))
   refine iL ?_
   ((conv=>whnf);repeat((first|refine aF ?_|refine aT ?_);(first|refine rG Γ hm ?_|refine rD Γ hm j_ ?_);conv=>whnf))
   exact Ba [] hI hj2 (Aq hI hj2 (by simp[h2])) ⟨⟨Y,Y,B7 _,hc,Y,Y,Y,Y,q_⟩,q_,Y,Y⟩
 ·have h:=of_decide_eq_false h
  ((first|refine rG Γ hm ?_|refine rD Γ hm j_ ?_);(conv=>whnf);repeat((first|refine aF ?_|refine aT ?_);(first|refine rG Γ hm ?_|refine rD Γ hm j_ ?_);conv=>whnf))
  refine Ar Y (.cons .tmp .nil) (congrArg Aa ?_) Y
  exact C2 (fun i hi=>by simpa using hI i hi z_)
theorem X9 (l:List Vrf) (p:Vrf→Bool) (f:FuncId) (first cap:List SV) (hc:(SV.clo (.func f) first cap).inn []=true) (hf:∀ x∈l,Jz Tryz.prog f (first++[Cd x]++cap) (Ab (p x))) (hl:At l) :
  Sy.Spec Tryz.prog 442 [.sl 5 Cd l,.clo (.func f) first cap] [] (Aa (Dl p l)) []:=cT F442 Tryz.ntmps442 fun F hF=>by
 unfold At at hl
 have hin:∀ x:Vrf,C6 [] (first++[Cd x]++cap)=true:=fun x=>Er hc rfl
 ((conv=>whnf);repeat((first|refine aF ?_|refine aT ?_);(first|refine rG Γ hm ?_|refine rD Γ hm j_ ?_);conv=>whnf))
 refine A2 l.length (fun j=>Da (fun _ x=>!(p x)) l j) (fun j=>[(0,.sl 5 Cd l),(1,.clo (.func f) first cap),(7,Aa l.length),(8,Aa j)]) (fun _=>[]) [] (Av _ _) ⟨⟨Y,Y,B7 _,hc,Y,Y,Y,Y,q_⟩,q_,Y,Y⟩ ?_
 intro j hj hI
 ((first|refine rG Γ hm ?_|refine rD Γ hm j_ ?_);(conv=>whnf);repeat((first|refine aF ?_|refine aT ?_);(first|refine rG Γ hm ?_|refine rD Γ hm j_ ?_);conv=>whnf))
 refine⟨fun h=>?_,fun h=>?_⟩
 ·have h:=of_decide_eq_true h
  have hj2:j<l.length:=by omega
  ((first|refine rG Γ hm ?_|refine rD Γ hm j_ ?_);(conv=>whnf);repeat((first|refine aF ?_|refine aT ?_);(first|refine rG Γ hm ?_|refine rD Γ hm j_ ?_);conv=>whnf))
  refine⟨Y,by omega,by omega,?_⟩
  ((conv=>whnf);repeat((first|refine aF ?_|refine aT ?_);(first|refine rG Γ hm ?_|refine rD Γ hm j_ ?_);conv=>whnf))
  refine Jq (hf l[j] (List.getElem_mem hj2)) Y Y Y (by simp only[hin];rfl) Y Y ?_
  ((first|refine rG Γ hm ?_|refine rD Γ hm j_ ?_);(conv=>whnf);repeat((first|refine aF ?_|refine aT ?_);(first|refine rG Γ hm ?_|refine rD Γ hm j_ ?_);conv=>whnf))
  refine⟨fun h2=>?_,fun h2=>?_⟩
  ·((first|refine rG Γ hm ?_|refine rD Γ hm j_ ?_);(conv=>whnf);repeat((first|refine aF ?_|refine aT ?_);(first|refine rG Γ hm ?_|refine rD Γ hm j_ ?_);conv=>whnf))
   refine Ar Y (.cons .tmp .nil) (congrArg Aa ?_) Y
   exact Ck hj2 (fun i hi hij=>by simpa using hI i hi hij) h2
  ·((first|refine rG Γ hm ?_|refine rD Γ hm j_ ?_);(conv=>whnf);repeat((first|refine aF ?_|refine aT ?_);(first|refine rG Γ hm ?_|refine rD Γ hm j_ ?_);conv=>whnf))
   refine iL ?_
   ((conv=>whnf);repeat((first|refine aF ?_|refine aT ?_);(first|refine rG Γ hm ?_|refine rD Γ hm j_ ?_);conv=>whnf))
   exact Ba [] hI hj2 (Aq hI hj2 (by simp[h2])) ⟨⟨Y,Y,B7 _,hc,Y,Y,Y,Y,q_⟩,q_,Y,Y⟩
 ·have h:=of_decide_eq_false h
  ((first|refine rG Γ hm ?_|refine rD Γ hm j_ ?_);(conv=>whnf);repeat((first|refine aF ?_|refine aT ?_);(first|refine rG Γ hm ?_|refine rD Γ hm j_ ?_);conv=>whnf))
  refine Ar Y (.cons .tmp .nil) (congrArg Aa ?_) Y
  exact C2 (fun i hi=>by simpa using hI i hi z_)
theorem Oz (l:List Device) (p:Device→Bool) (f:FuncId) (first cap:List SV) (hc:(SV.clo (.func f) first cap).inn []=true) (hf:∀ x∈l,Jz Tryz.prog f (first++[Az x]++cap) (Ab (p x))) (hl:At l) :
  Sy.Spec Tryz.prog 338 [.sl 5 Az l,.clo (.func f) first cap] [] (Ab (decide (0≤Dl p l))) []:=cT F338 Tryz.ntmps338 fun F hF=>by
 have h0:C6 [] [.sl 5 Az l,.clo (.func f) first cap]=true:=by simp only[C6,hc];rfl
 ((conv=>whnf);repeat((first|refine aF ?_|refine aT ?_);(first|refine rG Γ hm ?_|refine rD Γ hm j_ ?_);conv=>whnf))
 refine Mq (Io l p f first cap hc hf hl) F165 Y Y (by simp only[h0];rfl) Y Y ?_
 ((first|refine rG Γ hm ?_|refine rD Γ hm j_ ?_);(conv=>whnf);repeat((first|refine aF ?_|refine aT ?_);(first|refine rG Γ hm ?_|refine rD Γ hm j_ ?_);conv=>whnf))
 exact dN
theorem Jp (l:List Domain) (p:Domain→Bool) (f:FuncId) (first cap:List SV) (hc:(SV.clo (.func f) first cap).inn []=true) (hf:∀ x∈l,Jz Tryz.prog f (first++[Am x]++cap) (Ab (p x))) (hl:At l) :
  Sy.Spec Tryz.prog 408 [.sl 6 Am l,.clo (.func f) first cap] [] (Ab (decide (0≤Dl p l))) []:=cT F408 Tryz.ntmps408 fun F hF=>by
 have h0:C6 [] [.sl 6 Am l,.clo (.func f) first cap]=true:=by simp only[C6,hc];rfl
 ((conv=>whnf);repeat((first|refine aF ?_|refine aT ?_);(first|refine rG Γ hm ?_|refine rD Γ hm j_ ?_);conv=>whnf))
 refine Mq (Ez l p f first cap hc hf hl) F163 Y Y (by simp only[h0];rfl) Y Y ?_
 ((first|refine rG Γ hm ?_|refine rD Γ hm j_ ?_);(conv=>whnf);repeat((first|refine aF ?_|refine aT ?_);(first|refine rG Γ hm ?_|refine rD Γ hm j_ ?_);conv=>whnf))
 exact dN
theorem Ab6 (n:Net) (hn:n.Fin) (l:List Device) (p:Device→Bool) (f:FuncId) (first cap:List SV) (hc:(SV.clo (.func f) first cap).inn []=true) (hf:∀ x∈l,Jz Tryz.prog f (first++[Az x]++cap) (Ab (p x))) (hl:At l) :
  Sy.Spec Tryz.prog 404 [Aj n,.sl 5 Az l,.clo (.func f) first cap] [] (Aa (if Ah n=true then Dl p l else -1)) []:=cT F404 Tryz.ntmps404 fun F hF=>by
 have hr:=Cq n hn
 have q:=Io l p f first cap hc hf hl
 ((conv=>whnf);repeat((first|refine aF ?_|refine aT ?_);(first|refine rG Γ hm ?_|refine rD Γ hm j_ ?_);conv=>whnf))
 refine c0 hr F25 ?_
 cases hb:Ah n
 ·rw[if_neg qe]
  ((first|refine rG Γ hm ?_|refine rD Γ hm j_ ?_);(conv=>whnf);repeat((first|refine aF ?_|refine aT ?_);(first|refine rG Γ hm ?_|refine rD Γ hm j_ ?_);conv=>whnf))
  exact dN
 rw[if_pos rfl]
 ((first|refine rG Γ hm ?_|refine rD Γ hm j_ ?_);(conv=>whnf);repeat((first|refine aF ?_|refine aT ?_);(first|refine rG Γ hm ?_|refine rD Γ hm j_ ?_);conv=>whnf))
 refine Mq q F165 Y Y (by simp only[C6,hc,Bool.and_true];rfl) Y Y ?_
 ((first|refine rG Γ hm ?_|refine rD Γ hm j_ ?_);(conv=>whnf);repeat((first|refine aF ?_|refine aT ?_);(first|refine rG Γ hm ?_|refine rD Γ hm j_ ?_);conv=>whnf))
 exact dN
theorem Ah9 (n:Net) (hn:n.Fin) (l:List Port) (p:Port→Bool) (f:FuncId) (first cap:List SV) (hc:(SV.clo (.func f) first cap).inn []=true) (hf:∀ x∈l,Jz Tryz.prog f (first++[Bb x]++cap) (Ab (p x))) (hl:At l) :
  Sy.Spec Tryz.prog 406 [Aj n,.sl 7 Bb l,.clo (.func f) first cap] [] (Aa (if Ah n=true then Dl p l else -1)) []:=cT F406 Tryz.ntmps406 fun F hF=>by
 have hr:=Cq n hn
 have q:=Wh l p f first cap hc hf hl
 ((conv=>whnf);repeat((first|refine aF ?_|refine aT ?_);(first|refine rG Γ hm ?_|refine rD Γ hm j_ ?_);conv=>whnf))
 refine c0 hr F25 ?_
 cases hb:Ah n
 ·rw[if_neg qe]
  ((first|refine rG Γ hm ?_|refine rD Γ hm j_ ?_);(conv=>whnf);repeat((first|refine aF ?_|refine aT ?_);(first|refine rG Γ hm ?_|refine rD Γ hm j_ ?_);conv=>whnf))
  exact dN
 rw[if_pos rfl]
 ((first|refine rG Γ hm ?_|refine rD Γ hm j_ ?_);(conv=>whnf);repeat((first|refine aF ?_|refine aT ?_);(first|refine rG Γ hm ?_|refine rD Γ hm j_ ?_);conv=>whnf))
 refine Mq q F121 Y Y (by simp only[C6,hc,Bool.and_true];rfl) Y Y ?_
 ((first|refine rG Γ hm ?_|refine rD Γ hm j_ ?_);(conv=>whnf);repeat((first|refine aF ?_|refine aT ?_);(first|refine rG Γ hm ?_|refine rD Γ hm j_ ?_);conv=>whnf))
 exact dN
theorem Alt (n:Net) (hn:n.Fin) (l:List Vrf) (p:Vrf→Bool) (f:FuncId) (first cap:List SV) (hc:(SV.clo (.func f) first cap).inn []=true) (hf:∀ x∈l,Jz Tryz.prog f (first++[Cd x]++cap) (Ab (p x))) (hl:At l) :
  Sy.Spec Tryz.prog 414 [Aj n,.sl 5 Cd l,.clo (.func f) first cap] [] (Aa (if Ah n=true then Dl p l else -1)) []:=cT F414 Tryz.ntmps414 fun F hF=>by
 have hr:=Cq n hn
 have q:=X9 l p f first cap hc hf hl
 ((conv=>whnf);repeat((first|refine aF ?_|refine aT ?_);(first|refine rG Γ hm ?_|refine rD Γ hm j_ ?_);conv=>whnf))
 refine c0 hr F25 ?_
 cases hb:Ah n
 ·rw[if_neg qe]
  ((first|refine rG Γ hm ?_|refine rD Γ hm j_ ?_);(conv=>whnf);repeat((first|refine aF ?_|refine aT ?_);(first|refine rG Γ hm ?_|refine rD Γ hm j_ ?_);conv=>whnf))
  exact dN
 rw[if_pos rfl]
 ((first|refine rG Γ hm ?_|refine rD Γ hm j_ ?_);(conv=>whnf);repeat((first|refine aF ?_|refine aT ?_);(first|refine rG Γ hm ?_|refine rD Γ hm j_ ?_);conv=>whnf))
 refine Mq q F442 Y Y (by simp only[C6,hc,Bool.and_true];rfl) Y Y ?_
 ((first|refine rG Γ hm ?_|refine rD Γ hm j_ ?_);(conv=>whnf);repeat((first|refine aF ?_|refine aT ?_);(first|refine rG Γ hm ?_|refine rD Γ hm j_ ?_);conv=>whnf))
 exact dN
theorem Abk (s:ByteArray) (d:Device):Sy.Spec Tryz.prog 405 [Az d,.ref 1 (Ad s) 0] [] (Ab (d.name == s)) []:=cT F405 Tryz.ntmps405 fun F hF=>by
 refine T ?_
 exact D
theorem Ahs (dev:Int) (s:ByteArray) (p:Port):Sy.Spec Tryz.prog 407 [Bb p,.ref 1 (Aa dev) 0,.ref 1 (Ad s) 0] [] (Ab (p.dev == dev && p.name == s)) []:=cT F407 Tryz.ntmps407 fun F hF=>by
 cases h:(p.dev == dev)
 ·refine T ?_
  exact D
 ·refine T ?_
  exact D
theorem Alb (dev:Int) (s:ByteArray) (p:Vrf):Sy.Spec Tryz.prog 415 [Cd p,.ref 1 (Aa dev) 0,.ref 1 (Ad s) 0] [] (Ab (p.dev == dev && p.name == s)) []:=cT F415 Tryz.ntmps415 fun F hF=>by
 cases h:(p.dev == dev)
 ·refine T ?_
  exact D
 ·refine T ?_
  exact D
theorem Ik (n:Net) (hn:n.Fin) (hr:Ah n=true) (s:ByteArray):Sy.Spec Tryz.prog 340 [Aj n,Ad s] [] (Aa (Cn n s)) []:=cT F340 Tryz.ntmps340 fun F hF=>by
 have q:=Ab6 n hn n.devices (fun d=>d.name == s) 405 [] [.ref 1 (Ad s) 0] rfl (fun d _=>⟨⟨_,_,F405⟩,Abk s d⟩) hn.devices
 rw[if_pos hr]at q
 ((conv=>whnf);repeat((first|refine aF ?_|refine aT ?_);(first|refine rG Γ hm ?_|refine rD Γ hm j_ ?_);conv=>whnf))
 refine A6 3 1 (Ad s) Y Y Y ?_
 refine c0 q F404 ?_
 ((first|refine rG Γ hm ?_|refine rD Γ hm j_ ?_);(conv=>whnf);repeat((first|refine aF ?_|refine aT ?_);(first|refine rG Γ hm ?_|refine rD Γ hm j_ ?_);conv=>whnf))
 exact dN
theorem Si (n:Net) (hn:n.Fin) (hr:Ah n=true) (dev:Int) (s:ByteArray):Sy.Spec Tryz.prog 341 [Aj n,Aa dev,Ad s] [] (Aa (K5 n dev s)) []:=cT F341 Tryz.ntmps341 fun F hF=>by
 have q:=Ah9 n hn n.ports (fun p=>p.dev == dev && p.name == s) 407 [] [.ref 1 (Aa dev) 0,.ref 1 (Ad s) 0] rfl (fun d _=>⟨⟨_,_,F407⟩,Ahs dev s d⟩) hn.ports
 rw[if_pos hr]at q
 ((conv=>whnf);repeat((first|refine aF ?_|refine aT ?_);(first|refine rG Γ hm ?_|refine rD Γ hm j_ ?_);conv=>whnf))
 refine A6 4 1 (Aa dev) Y Y Y ?_
 refine A6 5 1 (Ad s) Y Y Y ?_
 refine c0 q F406 ?_
 ((first|refine rG Γ hm ?_|refine rD Γ hm j_ ?_);(conv=>whnf);repeat((first|refine aF ?_|refine aT ?_);(first|refine rG Γ hm ?_|refine rD Γ hm j_ ?_);conv=>whnf))
 exact dN
theorem Z1 (n:Net) (hn:n.Fin) (hr:Ah n=true) (dev:Int) (s:ByteArray):Sy.Spec Tryz.prog 348 [Aj n,Aa dev,Ad s] [] (Aa (Aco n dev s)) []:=cT F348 Tryz.ntmps348 fun F hF=>by
 have q:=Alt n hn n.vrfs (fun p=>p.dev == dev && p.name == s) 415 [] [.ref 1 (Aa dev) 0,.ref 1 (Ad s) 0] rfl (fun d _=>⟨⟨_,_,F415⟩,Alb dev s d⟩) hn.vrfs
 rw[if_pos hr]at q
 ((conv=>whnf);repeat((first|refine aF ?_|refine aT ?_);(first|refine rG Γ hm ?_|refine rD Γ hm j_ ?_);conv=>whnf))
 refine A6 4 1 (Aa dev) Y Y Y ?_
 refine A6 5 1 (Ad s) Y Y Y ?_
 refine c0 q F414 ?_
 ((first|refine rG Γ hm ?_|refine rD Γ hm j_ ?_);(conv=>whnf);repeat((first|refine aF ?_|refine aT ?_);(first|refine rG Γ hm ?_|refine rD Γ hm j_ ?_);conv=>whnf))
 exact dN
theorem Ja (n:Net) (hn:n.Fin) (hr:Ah n=true) (dev vlan:Int):Sy.Spec Tryz.prog 168 [Aj n,Aa dev,Aa vlan] [] (Aa (Ds n dev vlan)) []:=by
 have q:=Tq n hn dev vlan
 rwa [T7,if_pos hr]at q
end Go.Sy.YtjenpnjajjplkaaGreatDoor
namespace Go.Sy.YtjenpnjajjplkaaGreatDoor
open Go.Proofs
attribute [local irreducible] Go.Sy.G Go.Sy.DR
set_option maxRecDepth 100000
set_option maxHeartbeats 4000000
theorem D2 {α:Type} {p:α→Bool} {l:List α} (h:¬ Dl p l<0):∃ i:Nat,Dl p l=i∧i<l.length:=by
 have:=Abx p l
 exact⟨(Dl p l).toNat,by omega,by omega⟩
theorem K8 (n:Net) (hn:n.Fin) (l:LineM) (hl:LineW l) (k:Int):Sy.Spec Tryz.prog 346 [Aj n,Al l,Aa k] [] (.tup [Aa (begT n l k).1,Aa (begT n l k).2]) []:=cT F346 Tryz.ntmps346 fun F hF=>by
 have q1:=I0 l hl
 have q2:=Cq n hn
 have hres:=begT.eq_1 n l k
 have hf:=fitsB.eq_1 n l k
 generalize begT n l k=res at *
 generalize fitsB n l k=f at *
 cases h1:(l.kind == k) with
 | false =>
  have g1:(l.kind != k)=true:=by rw[bne,h1];rfl
  rw[h1,Bool.false_and]at hf
  rw[hf,if_pos rfl]at hres
  subst hres
  refine T ?_
  exact D
 | true =>
  have g1:(l.kind != k)=false:=by rw[bne,h1];rfl
  rw[h1,Bool.true_and]at hf
  cases h2:B1 l with
  | false =>
   rw[h2]at q1 hf
   rw[hf,Bool.false_and,if_pos rfl]at hres
   subst hres
   refine T ?_
   refine C q1 F343 ?_
   exact D
  | true =>
   rw[h2]at q1 hf
   cases h3:Ah n with
   | false =>
    rw[h3]at q2 hf
    rw[hf,Bool.and_false,if_pos rfl]at hres
    subst hres
    refine T ?_
    refine C q1 F343 ?_
    refine C q2 F25 ?_
    exact D
   | true =>
    have q3:=Ik n hn h3 l.dev
    rw[h3]at q2 hf
    rw[hf,if_neg qe]at hres
    generalize Cn n l.dev=d at *
    by_cases h4:d<0
    ·have g4:decide (d<0)=true:=decide_eq_true h4
     rw[if_pos h4]at hres
     subst hres
     refine T ?_
     refine C q1 F343 ?_
     refine C q2 F25 ?_
     refine C q3 F340 ?_
     exact D
    ·have g4:decide (d<0)=false:=decide_eq_false h4
     rw[if_neg h4]at hres
     subst hres
     refine T ?_
     refine C q1 F343 ?_
     refine C q2 F25 ?_
     refine C q3 F340 ?_
     exact D
theorem Wu (n:Net) (hn:n.Fin) (l:LineM) (hl:LineW l) (k:Int):Sy.Spec Tryz.prog 347 [Aj n,Al l,Aa k] [] (.tup [Aa (begT n l k).1,Aa (begT n l k).2]) []:=cT F347 Tryz.ntmps347 fun F hF=>by
 have q1:=I0 l hl
 have q2:=Cq n hn
 have hres:=begT.eq_1 n l k
 have hf:=fitsB.eq_1 n l k
 generalize begT n l k=res at *
 generalize fitsB n l k=f at *
 cases h1:(l.kind == k) with
 | false =>
  have g1:(l.kind != k)=true:=by rw[bne,h1];rfl
  rw[h1,Bool.false_and]at hf
  rw[hf,if_pos rfl]at hres
  subst hres
  refine T ?_
  exact D
 | true =>
  have g1:(l.kind != k)=false:=by rw[bne,h1];rfl
  rw[h1,Bool.true_and]at hf
  cases h2:B1 l with
  | false =>
   rw[h2]at q1 hf
   rw[hf,Bool.false_and,if_pos rfl]at hres
   subst hres
   refine T ?_
   refine C q1 F343 ?_
   exact D
  | true =>
   rw[h2]at q1 hf
   cases h3:Ah n with
   | false =>
    rw[h3]at q2 hf
    rw[hf,Bool.and_false,if_pos rfl]at hres
    subst hres
    refine T ?_
    refine C q1 F343 ?_
    refine C q2 F25 ?_
    exact D
   | true =>
    have q3:=Ik n hn h3 l.dev
    rw[h3]at q2 hf
    rw[hf,if_neg qe]at hres
    generalize Cn n l.dev=d at *
    by_cases h4:d<0
    ·have g4:decide (d<0)=true:=decide_eq_true h4
     rw[if_pos h4]at hres
     subst hres
     refine T ?_
     refine C q1 F343 ?_
     refine C q2 F25 ?_
     refine C q3 F340 ?_
     exact D
    ·have g4:decide (d<0)=false:=decide_eq_false h4
     rw[if_neg h4]at hres
     subst hres
     refine T ?_
     refine C q1 F343 ?_
     refine C q2 F25 ?_
     refine C q3 F340 ?_
     exact D
theorem beg_ok {n:Net} {l:LineM} {k:Int} (h:(begT n l k).2=0):fitsB n l k=true∧Ah n=true∧∃ i:Nat,(begT n l k).1=i∧i<n.devices.length:=by
 unfold begT at h ⊢
 cases hf:fitsB n l k with
 | false=>rw[hf,if_pos rfl]at h;exact absurd h y_
 | true =>
  rw[hf,if_neg qe]at h
  rw[if_neg qe]
  by_cases hd:Cn n l.dev<0
  ·rw[if_pos hd]at h;exact absurd h y_
  ·rw[if_neg hd]
   refine⟨Y,?_,D2 hd⟩
   unfold fitsB at hf
   simp only[Bool.and_eq_true]at hf
   exact hf.2.2
theorem ownerC (a:Int) (d:Device):Sy.Spec Tryz.prog 166 [Az d,.ref 1 (A3 a) 0] [] (Ab (d.vtep == a)) []:=cT F166 Tryz.ntmps166 fun F hF=>by
 refine T ?_
 exact D
theorem Ahn (n:Net) (hn:n.Fin) (a:Int):Sy.Spec Tryz.prog 64 [Aj n,A3 a] [] (Aa (Cz n a)) []:=cT F64 Tryz.ntmps64 fun F hF=>by
 have q:=Io n.devices (fun d=>d.vtep == a) 166 [] [.ref 1 (A3 a) 0] rfl (fun d _=>⟨⟨_,_,F166⟩,ownerC a d⟩) hn.devices
 ((conv=>whnf);repeat((first|refine aF ?_|refine aT ?_);(first|refine rG Γ hm ?_|refine rD Γ hm j_ ?_);conv=>whnf))
 refine A6 3 1 (A3 a) Y Y Y ?_
 refine c0 q F165 ?_
 ((first|refine rG Γ hm ?_|refine rD Γ hm j_ ?_);(conv=>whnf);repeat((first|refine aF ?_|refine aT ?_);(first|refine rG Γ hm ?_|refine rD Γ hm j_ ?_);conv=>whnf))
 exact dN
theorem Ap4 (dev vni:Int) (d:Domain):Sy.Spec Tryz.prog 164 [Am d,.ref 1 (Aa dev) 0,.ref 1 (Aa vni) 0] [] (Ab (d.dev == dev && (d.vni == vni && vni != 0))) []:=cT F164 Tryz.ntmps164 fun F hF=>by
 cases h:(d.dev == dev)
 ·refine T ?_
  exact D
 ·cases h2:(d.vni == vni)
  ·refine T ?_
   exact D
  ·refine T ?_
   exact D
theorem Tj (n:Net) (hn:n.Fin) (dev vni:Int):Sy.Spec Tryz.prog 63 [Aj n,Aa dev,Aa vni] [] (Aa (Ia n dev vni)) []:=cT F63 Tryz.ntmps63 fun F hF=>by
 have q:=Ez n.domains (fun d=>d.dev == dev && (d.vni == vni && vni != 0)) 164 [] [.ref 1 (Aa dev) 0,.ref 1 (Aa vni) 0] rfl (fun d _=>⟨⟨_,_,F164⟩,Ap4 dev vni d⟩) hn.domains
 ((conv=>whnf);repeat((first|refine aF ?_|refine aT ?_);(first|refine rG Γ hm ?_|refine rD Γ hm j_ ?_);conv=>whnf))
 refine A6 4 1 (Aa dev) Y Y Y ?_
 refine A6 5 1 (Aa vni) Y Y Y ?_
 refine c0 q F163 ?_
 ((first|refine rG Γ hm ?_|refine rD Γ hm j_ ?_);(conv=>whnf);repeat((first|refine aF ?_|refine aT ?_);(first|refine rG Γ hm ?_|refine rD Γ hm j_ ?_);conv=>whnf))
 exact dN
theorem Ap3 (dev vni:Int) (f:Flood):Sy.Spec Tryz.prog 162 [A4 f,.ref 1 (Aa dev) 0,.ref 1 (Aa vni) 0] [] (Ab (f.dev == dev && f.vni == vni)) []:=cT F162 Tryz.ntmps162 fun F hF=>by
 cases h:(f.dev == dev)
 ·refine T ?_
  exact D
 ·refine T ?_
  exact D
theorem Abe (n:Net) (hn:n.Fin) (dev vni:Int):Sy.Spec Tryz.prog 62 [Aj n,Aa dev,Aa vni] [] (Aa (Ee n dev vni)) []:=cT F62 Tryz.ntmps62 fun F hF=>by
 have q:=U2 n.floods (fun f=>f.dev == dev && f.vni == vni) 162 [] [.ref 1 (Aa dev) 0,.ref 1 (Aa vni) 0] rfl (fun f _=>⟨⟨_,_,F162⟩,Ap3 dev vni f⟩) hn.floods
 ((conv=>whnf);repeat((first|refine aF ?_|refine aT ?_);(first|refine rG Γ hm ?_|refine rD Γ hm j_ ?_);conv=>whnf))
 refine A6 4 1 (Aa dev) Y Y Y ?_
 refine A6 5 1 (Aa vni) Y Y Y ?_
 refine c0 q F161 ?_
 ((first|refine rG Γ hm ?_|refine rD Γ hm j_ ?_);(conv=>whnf);repeat((first|refine aF ?_|refine aT ?_);(first|refine rG Γ hm ?_|refine rD Γ hm j_ ?_);conv=>whnf))
 exact dN
theorem Ap2 (n:Net) (hn:n.Fin) (l:LineM) (hl:LineW l):Sy.Spec Tryz.prog 284 [Aj n,Al l] [] (.tup [Aj (putVtep n l).1,Aa (putVtep n l).2]) []:=cT F284 Tryz.ntmps284 fun F hF=>by
 have q1:=K8 n hn l hl 5
 have hok:=@beg_ok n l 5
 have hres:=putVtep.eq_1 n l
 have q2:=Ahn n hn l.addr
 have q3:=Mc n hn
 generalize putVtep n l=res at *
 generalize begT n l 5=b at *
 obtain ⟨d,e⟩:=b
 dsimp only at hres hok q1
 by_cases h1:e≠0
 ·have g1:(e != 0)=true:=by rw[bne_iff_ne];exact h1
  rw[if_pos h1]at hres
  subst hres
  refine T ?_
  refine C q1 F346 ?_
  refine Ag 4 (Bj emptyN) Y (.cons .nil (.cons .nil (.cons .nil (.cons .nil (.cons .nil (.cons .nil (.cons .nil (.cons .nil .nil)))))))) ?_
  refine T ?_
  exact D
 have g1:(e != 0)=false:=by rw[bne_eq_false_iff_eq];omega
 rw[if_neg h1]at hres
 obtain ⟨_,_,i,hi,hlt⟩:=hok z_
 subst hi
 clear hok
 have hlt0:((i:Nat):Int).toNat<n.devices.length:=hlt
 have hnth:nth n.devices (i:Int)=n.devices[((i:Nat):Int).toNat]'hlt0:=As hlt0
 rw[hnth]at hres
 by_cases h2:(n.devices[((i:Nat):Int).toNat]'hlt0).vtep≠0
 ·have g2:((n.devices[((i:Nat):Int).toNat]'hlt0).vtep != 0)=true:=by rw[bne_iff_ne];exact h2
  rw[if_pos (.inl h2)]at hres
  subst hres
  refine T ?_
  refine C q1 F346 ?_
  refine Ag 4 (Bj emptyN) Y (.cons .nil (.cons .nil (.cons .nil (.cons .nil (.cons .nil (.cons .nil (.cons .nil (.cons .nil .nil)))))))) ?_
  refine T ?_
  exact D
 have g2:((n.devices[((i:Nat):Int).toNat]'hlt0).vtep != 0)=false:=by rw[bne_eq_false_iff_eq];omega
 by_cases h3:0≤Cz n l.addr
 ·have g3:decide (Cz n l.addr≥0)=true:=decide_eq_true h3
  rw[if_pos (.inr h3)]at hres
  subst hres
  refine T ?_
  refine C q1 F346 ?_
  refine C q2 F64 ?_
  refine Ag 4 (Bj emptyN) Y (.cons .nil (.cons .nil (.cons .nil (.cons .nil (.cons .nil (.cons .nil (.cons .nil (.cons .nil .nil)))))))) ?_
  refine T ?_
  exact D
 have g3:decide (Cz n l.addr≥0)=false:=decide_eq_false h3
 rw[if_neg (fun h=>h.elim h2 h3)]at hres
 have hset:Sb n.devices (i:Int) l.addr=n.devices.set ((i:Nat):Int).toNat { (n.devices[((i:Nat):Int).toNat]'hlt0) with vtep:=l.addr }:=by rw[Sb,hnth]
 rw[hset]at hres
 subst hres
 have hne:n.devices≠[]:=fun e=>by rw[e]at hlt;cases hlt
 refine T ?_
 refine C q1 F346 ?_
 refine C q2 F64 ?_
 refine X (Af [(0,901),(1,902),(2,903),(3,904),(4,905),(5,906),(6,907),(7,908)] Y F61 q3 Y W Y V) ?_
 refine⟨hne,?_⟩
 refine T ?_
 refine⟨{ (n.devices[((i:Nat):Int).toNat]'hlt0) with vtep:=l.addr },rfl,rfl,?_⟩
 refine T ?_
 refine Ac 901 Y ?_
 refine Ac 902 Y ?_
 refine Ac 903 Y ?_
 refine Ac 904 Y ?_
 refine Ac 905 Y ?_
 refine Ac 906 Y ?_
 refine Ac 907 Y ?_
 refine Ac 908 Y ?_
 exact D
theorem Aac (l:List Int) (x:Int) (hl:At l):Sy.Spec Tryz.prog 249 [.sl 1 A3 l,A3 x] [] (Aa (Dl (· == x) l)) []:=cT F249 Tryz.ntmps249 fun F hF=>by
 unfold At at hl
 ((conv=>whnf);repeat((first|refine aF ?_|refine aT ?_);(first|refine rG Γ hm ?_|refine rD Γ hm j_ ?_);conv=>whnf))
 refine A2 l.length (fun j=>∀ i (h:i<l.length),i<j→(l[i] == x)=false) (fun j=>[(0,.sl 1 A3 l),(1,A3 x),(7,Aa l.length),(8,Aa j)]) (fun _=>[]) [] (fun i h hj=>absurd hj z_) ⟨⟨Y,Y,Y,Y,Y,Y,Y,Y,q_⟩,q_,Y,Y⟩ ?_
 intro j hj hI
 ((first|refine rG Γ hm ?_|refine rD Γ hm j_ ?_);(conv=>whnf);repeat((first|refine aF ?_|refine aT ?_);(first|refine rG Γ hm ?_|refine rD Γ hm j_ ?_);conv=>whnf))
 (repeat' (first | (refine⟨fun h=>?_,fun h=>?_⟩<;>(repeat (first | simp only[Ap]at h | simp only[decide_eq_true_eq]at h | simp only[decide_eq_false_iff_not]at h | simp only[beq_iff_eq]at h | simp only[beq_eq_false_iff_ne]at h | simp only[bne_iff_ne]at h | simp only[bne_eq_false_iff_eq]at h | simp only[Bool.and_eq_true]at h | simp only[Bool.or_eq_true]at h | simp only[Bool.and_eq_false_iff]at h | simp only[Bool.or_eq_false_iff]at h | simp only[Bool.not_eq_true']at h | simp only[Bool.not_eq_false']at h | simp only[Bool.not_eq_eq_eq_not]at h | simp only[Bool.not_true]at h | simp only[Bool.not_false]at h))<;>((first|refine rg ?_|refine rd j_ ?_);(conv=>whnf);repeat((first|refine aF ?_|refine aT ?_);(first|refine rg ?_|refine rd j_ ?_);(conv=>whnf)))) | (refine Ar rfl (.cons .tmp .nil) ?_ rfl) | (refine⟨j_,?_⟩;((conv=>whnf);repeat((first|refine aF ?_|refine aT ?_);(first|refine rg ?_|refine rd j_ ?_);(conv=>whnf)))) | (refine⟨by (first | (unfold I64;omega) | omega | (simp only[Int.toNat_natCast];omega) | done),by (first | (unfold I64;omega) | omega | (simp only[Int.toNat_natCast];omega) | done),?_⟩;((conv=>whnf);repeat((first|refine aF ?_|refine aT ?_);(first|refine rg ?_|refine rd j_ ?_);(conv=>whnf)))) | (refine⟨by (first | (unfold I64;omega) | omega | (simp only[Int.toNat_natCast];omega) | done),?_⟩;((conv=>whnf);repeat((first|refine aF ?_|refine aT ?_);(first|refine rg ?_|refine rd j_ ?_);(conv=>whnf)))) | refine Ba [] hI z_ ?_ ⟨⟨rfl,rfl,rfl,rfl,rfl,rfl,rfl,rfl,trivial⟩,trivial,rfl,rfl⟩))
 all_goals try (refine congrArg Aa ?_)
 ·exact Ck z_ hI (by simpa using h.symm)
 ·intro i hi hij
  rcases Nat.lt_or_ge i j with h1 | h1
  ·exact hI i hi h1
  ·have:i=j:=by omega
   subst this
   simpa using Ne.symm h
 ·exact C2 (fun i hi=>hI i hi z_)
theorem Md (l:List Int) (x:Int) (hl:At l):Sy.Spec Tryz.prog 150 [.sl 1 A3 l,A3 x] [] (Ab (inB l x)) []:=cT F150 Tryz.ntmps150 fun F hF=>by
 ((conv=>whnf);repeat((first|refine aF ?_|refine aT ?_);(first|refine rG Γ hm ?_|refine rD Γ hm j_ ?_);conv=>whnf))
 (repeat' (first | (refine⟨fun h=>?_,fun h=>?_⟩<;>(repeat (first | simp only[Ap]at h | simp only[decide_eq_true_eq]at h | simp only[decide_eq_false_iff_not]at h | simp only[beq_iff_eq]at h | simp only[beq_eq_false_iff_ne]at h | simp only[bne_iff_ne]at h | simp only[bne_eq_false_iff_eq]at h | simp only[Bool.and_eq_true]at h | simp only[Bool.or_eq_true]at h | simp only[Bool.and_eq_false_iff]at h | simp only[Bool.or_eq_false_iff]at h | simp only[Bool.not_eq_true']at h | simp only[Bool.not_eq_false']at h | simp only[Bool.not_eq_eq_eq_not]at h | simp only[Bool.not_true]at h | simp only[Bool.not_false]at h))<;>((first|refine rg ?_|refine rd j_ ?_);(conv=>whnf);repeat((first|refine aF ?_|refine aT ?_);(first|refine rg ?_|refine rd j_ ?_);(conv=>whnf)))) | (refine Ar rfl (.cons .tmp .nil) ?_ rfl) | (refine⟨j_,?_⟩;((conv=>whnf);repeat((first|refine aF ?_|refine aT ?_);(first|refine rg ?_|refine rd j_ ?_);(conv=>whnf)))) | (refine⟨by (first | (unfold I64;omega) | omega | (simp only[Int.toNat_natCast];omega) | done),by (first | (unfold I64;omega) | omega | (simp only[Int.toNat_natCast];omega) | done),?_⟩;((conv=>whnf);repeat((first|refine aF ?_|refine aT ?_);(first|refine rg ?_|refine rd j_ ?_);(conv=>whnf)))) | (refine⟨by (first | (unfold I64;omega) | omega | (simp only[Int.toNat_natCast];omega) | done),?_⟩;((conv=>whnf);repeat((first|refine aF ?_|refine aT ?_);(first|refine rg ?_|refine rd j_ ?_);(conv=>whnf)))) | (refine c0 (Aac _ _ hl) F249 ?_;((first|refine rg ?_|refine rd j_ ?_);(conv=>whnf);repeat((first|refine aF ?_|refine aT ?_);(first|refine rg ?_|refine rd j_ ?_);(conv=>whnf)))) | (refine cD (Aac _ _ hl) F249 ?_;((first|refine rg ?_|refine rd j_ ?_);(conv=>whnf);repeat((first|refine aF ?_|refine aT ?_);(first|refine rg ?_|refine rd j_ ?_);(conv=>whnf))))))
 exact congrArg Ab (Km _ _).symm
theorem ovVniS (n:Net) (hn:n.Fin) (l:LineM) (hl:LineW l):Sy.Spec Tryz.prog 285 [Aj n,Al l] [] (.tup [Aj (putVni n l).1,Aa (putVni n l).2]) []:=cT F285 Tryz.ntmps285 fun F hF=>by
 have hok:=@beg_ok n l 6
 have hres:=putVni.eq_1 n l
 have q1:=K8 n hn l hl 6
 have qcopy:=Mc n hn
 generalize putVni n l=res at *
 generalize begT n l 6=b at *
 obtain ⟨d,e⟩:=b
 dsimp only at hres hok q1
 by_cases h1:e≠0
 ·have g1:(e != 0)=true:=by rw[bne_iff_ne];exact h1
  rw[if_pos h1]at hres
  subst hres
  refine T ?_
  refine C q1 F346 ?_
  refine Ag 4 (Bj emptyN) Y (.cons .nil (.cons .nil (.cons .nil (.cons .nil (.cons .nil (.cons .nil (.cons .nil (.cons .nil .nil)))))))) ?_
  refine T ?_
  exact D
 have g1:(e != 0)=false:=by rw[bne_eq_false_iff_eq];omega
 rw[if_neg h1]at hres
 obtain ⟨_,hr,i,hi,hlt⟩:=hok z_
 subst hi
 clear hok
 have hlt0:((i:Nat):Int).toNat<n.devices.length:=hlt
 have hnth:nth n.devices (i:Int)=n.devices[((i:Nat):Int).toNat]'hlt0:=As hlt0
 rw[hnth]at hres
 have q2:=Ja n hn hr (i:Int) l.vlan
 have q3:=Tj n hn (i:Int) l.num
 have hdr:Ds n (i:Int) l.vlan<0∨∃ k:Nat,Ds n (i:Int) l.vlan=k∧k<n.domains.length:=by
  by_cases h:Ds n (i:Int) l.vlan<0
  ·exact .inl h
  ·exact .inr (D2 h)
 generalize Ds n (i:Int) l.vlan=dm at *
 by_cases h2:(n.devices[((i:Nat):Int).toNat]'hlt0).vtep=0
 ·have g2:((n.devices[((i:Nat):Int).toNat]'hlt0).vtep == 0)=true:=by rw[beq_iff_eq];exact h2
  rw[if_pos h2]at hres
  subst hres
  refine T ?_
  refine C q1 F346 ?_
  refine C q2 F168 ?_
  refine Ag 4 (Bj emptyN) Y (.cons .nil (.cons .nil (.cons .nil (.cons .nil (.cons .nil (.cons .nil (.cons .nil (.cons .nil .nil)))))))) ?_
  refine T ?_
  exact D
 have g2:((n.devices[((i:Nat):Int).toNat]'hlt0).vtep == 0)=false:=by rw[beq_eq_false_iff_ne];exact h2
 rw[if_neg h2]at hres
 by_cases h3:dm<0
 ·have g3:decide (dm<0)=true:=decide_eq_true h3
  rw[if_pos h3]at hres
  subst hres
  refine T ?_
  refine C q1 F346 ?_
  refine C q2 F168 ?_
  refine Ag 4 (Bj emptyN) Y (.cons .nil (.cons .nil (.cons .nil (.cons .nil (.cons .nil (.cons .nil (.cons .nil (.cons .nil .nil)))))))) ?_
  refine T ?_
  exact D
 have g3:decide (dm<0)=false:=decide_eq_false h3
 rw[if_neg h3]at hres
 obtain ⟨k,hk,hkl⟩:=hdr.resolve_left h3
 subst hk
 clear hdr
 have hkl0:((k:Nat):Int).toNat<n.domains.length:=hkl
 have hnd:nth n.domains (k:Int)=n.domains[((k:Nat):Int).toNat]'hkl0:=As hkl0
 rw[hnd]at hres
 by_cases h4:(n.domains[((k:Nat):Int).toNat]'hkl0).vni≠0
 ·have g4:((n.domains[((k:Nat):Int).toNat]'hkl0).vni != 0)=true:=by rw[bne_iff_ne];exact h4
  rw[if_pos (.inl h4)]at hres
  subst hres
  refine T ?_
  refine C q1 F346 ?_
  refine C q2 F168 ?_
  refine Ag 4 (Bj emptyN) Y (.cons .nil (.cons .nil (.cons .nil (.cons .nil (.cons .nil (.cons .nil (.cons .nil (.cons .nil .nil)))))))) ?_
  refine T ?_
  exact D
 have g4:((n.domains[((k:Nat):Int).toNat]'hkl0).vni != 0)=false:=by rw[bne_eq_false_iff_eq];omega
 by_cases h5:0≤Ia n (i:Int) l.num
 ·have g5:decide (Ia n (i:Int) l.num≥0)=true:=decide_eq_true h5
  rw[if_pos (.inr h5)]at hres
  subst hres
  refine T ?_
  refine C q1 F346 ?_
  refine C q2 F168 ?_
  refine C q3 F63 ?_
  refine Ag 4 (Bj emptyN) Y (.cons .nil (.cons .nil (.cons .nil (.cons .nil (.cons .nil (.cons .nil (.cons .nil (.cons .nil .nil)))))))) ?_
  refine T ?_
  exact D
 have g5:decide (Ia n (i:Int) l.num≥0)=false:=decide_eq_false h5
 rw[if_neg (fun h=>h.elim h4 h5)]at hres
 have hne:n.domains≠[]:=fun e=>by rw[e]at hkl;cases hkl
 have hne2:∀ x,n.domains.set ((k:Nat):Int).toNat x≠[]:=fun x e=>by
  have:=congrArg List.length e
  rw[List.length_set]at this
  simp at this;exact hne this
 have hk2:∀ x,((k:Nat):Int).toNat<(n.domains.set ((k:Nat):Int).toNat x).length:=fun x=>by rw[List.length_set];exact hkl0
 have hset:∀ x y,(n.domains.set ((k:Nat):Int).toNat x).set ((k:Nat):Int).toNat y=n.domains.set ((k:Nat):Int).toNat y:=fun x y=>List.set_set ..
 have hget:∀ x,(n.domains.set ((k:Nat):Int).toNat x)[((k:Nat):Int).toNat]'(hk2 x)=x:=fun x=>List.getElem_set_self ..
 rw[← hset (⟨(n.domains[((k:Nat):Int).toNat]'hkl0).dev,(n.domains[((k:Nat):Int).toNat]'hkl0).vlan,l.num,(n.domains[((k:Nat):Int).toNat]'hkl0).irb,(n.domains[((k:Nat):Int).toNat]'hkl0).row,(n.domains[((k:Nat):Int).toNat]'hkl0).peers⟩:Domain) (⟨(n.domains[((k:Nat):Int).toNat]'hkl0).dev,(n.domains[((k:Nat):Int).toNat]'hkl0).vlan,l.num,(n.domains[((k:Nat):Int).toNat]'hkl0).irb,l.row,(n.domains[((k:Nat):Int).toNat]'hkl0).peers⟩:Domain)]at hres
 subst hres
 refine T ?_
 refine C q1 F346 ?_
 refine C q2 F168 ?_
 refine C q3 F63 ?_
 refine X (Af [(0,901),(1,902),(2,903),(3,904),(4,905),(5,906),(6,907),(7,908)] Y F61 qcopy Y W Y V) ?_
 refine⟨hne,?_⟩
 refine T ?_
 refine⟨(⟨(n.domains[((k:Nat):Int).toNat]'hkl0).dev,(n.domains[((k:Nat):Int).toNat]'hkl0).vlan,l.num,(n.domains[((k:Nat):Int).toNat]'hkl0).irb,(n.domains[((k:Nat):Int).toNat]'hkl0).row,(n.domains[((k:Nat):Int).toNat]'hkl0).peers⟩:Domain),Y,Y,?_⟩
 refine T ?_
 refine⟨hk2 _,?_⟩
 refine T ?_
 refine⟨hne2 _,?_⟩
 refine T ?_
 refine⟨hk2 _,(⟨(n.domains[((k:Nat):Int).toNat]'hkl0).dev,(n.domains[((k:Nat):Int).toNat]'hkl0).vlan,l.num,(n.domains[((k:Nat):Int).toNat]'hkl0).irb,l.row,(n.domains[((k:Nat):Int).toNat]'hkl0).peers⟩:Domain),by rw[hget];rfl,by rw[hget];rfl,?_⟩
 refine T ?_
 refine Ac 901 Y ?_
 refine Ac 902 Y ?_
 refine Ac 903 Y ?_
 refine Ac 904 Y ?_
 refine Ac 905 Y ?_
 refine Ac 906 Y ?_
 refine Ac 907 Y ?_
 refine Ac 908 Y ?_
 exact D
theorem Anm (n:Net) (hn:n.Fin) (l:LineM) (hl:LineW l):Sy.Spec Tryz.prog 286 [Aj n,Al l] [] (.tup [Aj (putFlood n l).1,Aa (putFlood n l).2]) []:=cT F286 Tryz.ntmps286 fun F hF=>by
 have hok:=@beg_ok n l 7
 have hres:=putFlood.eq_1 n l
 have q1:=K8 n hn l hl 7
 have qcopy:=Mc n hn
 generalize putFlood n l=res at *
 generalize begT n l 7=b at *
 obtain ⟨d,e⟩:=b
 dsimp only at hres hok q1
 by_cases h1:e≠0
 ·have g1:(e != 0)=true:=by rw[bne_iff_ne];exact h1
  rw[if_pos h1]at hres
  subst hres
  refine T ?_
  refine C q1 F346 ?_
  refine Ag 4 (Bj emptyN) Y (.cons .nil (.cons .nil (.cons .nil (.cons .nil (.cons .nil (.cons .nil (.cons .nil (.cons .nil .nil)))))))) ?_
  refine T ?_
  exact D
 have g1:(e != 0)=false:=by rw[bne_eq_false_iff_eq];omega
 rw[if_neg h1]at hres
 obtain ⟨_,hr,i,hi,hlt⟩:=hok z_
 subst hi
 clear hok
 have hlt0:((i:Nat):Int).toNat<n.devices.length:=hlt
 have hnth:nth n.devices (i:Int)=n.devices[((i:Nat):Int).toNat]'hlt0:=As hlt0
 rw[hnth]at hres
 have hla:=hl.fin.a
 have q2:=Tj n hn (i:Int) l.num
 have q3:=Abe n hn (i:Int) l.num
 have q4:=Md l.addrs (n.devices[((i:Nat):Int).toNat]'hlt0).vtep (by unfold At;omega)
 have q5:=Aam l.addrs z_
 generalize Ia n (i:Int) l.num=v2 at *
 generalize Ee n (i:Int) l.num=v3 at *
 generalize inB l.addrs (n.devices[((i:Nat):Int).toNat]'hlt0).vtep=v4 at *
 by_cases h2:v2<0
 ·have g2:decide (v2<0)=true:=decide_eq_true h2
  rw[if_pos h2]at hres
  subst hres
  refine T ?_
  refine C q1 F346 ?_
  refine C q2 F63 ?_
  refine Ag 4 (Bj emptyN) Y (.cons .nil (.cons .nil (.cons .nil (.cons .nil (.cons .nil (.cons .nil (.cons .nil (.cons .nil .nil)))))))) ?_
  refine T ?_
  exact D
 have g2:decide (v2<0)=false:=decide_eq_false h2
 rw[if_neg h2]at hres
 by_cases h3:0≤v3
 ·have g3:decide (v3≥0)=true:=decide_eq_true h3
  rw[if_pos h3]at hres
  subst hres
  refine T ?_
  refine C q1 F346 ?_
  refine C q2 F63 ?_
  refine C q3 F62 ?_
  refine Ag 4 (Bj emptyN) Y (.cons .nil (.cons .nil (.cons .nil (.cons .nil (.cons .nil (.cons .nil (.cons .nil (.cons .nil .nil)))))))) ?_
  refine T ?_
  exact D
 have g3:decide (v3≥0)=false:=decide_eq_false h3
 rw[if_neg h3]at hres
 cases v4 with
 | true =>
  rw[if_pos rfl]at hres
  subst hres
  refine T ?_
  refine C q1 F346 ?_
  refine C q2 F63 ?_
  refine C q3 F62 ?_
  refine C q4 F150 ?_
  refine Ag 4 (Bj emptyN) Y (.cons .nil (.cons .nil (.cons .nil (.cons .nil (.cons .nil (.cons .nil (.cons .nil (.cons .nil .nil)))))))) ?_
  refine T ?_
  exact D
 | false =>
  rw[if_neg qe]at hres
  by_cases h5:n.floods.length=48
  ·have g5:((n.floods.length:Int) == 48)=true:=by rw[beq_iff_eq];omega
   rw[if_pos h5]at hres
   subst hres
   refine T ?_
   refine C q1 F346 ?_
   refine C q2 F63 ?_
   refine C q3 F62 ?_
   refine C q4 F150 ?_
   refine Ag 4 (Bj emptyN) Y (.cons .nil (.cons .nil (.cons .nil (.cons .nil (.cons .nil (.cons .nil (.cons .nil (.cons .nil .nil)))))))) ?_
   refine T ?_
   exact D
  have g5:((n.floods.length:Int) == 48)=false:=by rw[beq_eq_false_iff_ne];omega
  rw[if_neg h5]at hres
  subst hres
  have hfl:n.floods.length<2147483648:=hn.floods
  refine T ?_
  refine C q1 F346 ?_
  refine C q2 F63 ?_
  refine C q3 F62 ?_
  refine C q4 F150 ?_
  refine X (Af [(0,901),(1,902),(2,903),(3,904),(4,905),(5,906),(6,907),(7,908)] Y F61 qcopy Y W Y V) ?_
  refine C q5 F160 ?_
  refine Xd (Ak Γ.toTy 66 Y Y Y Y Y (.row Y) (.lit (e:=A4) (l:=[(⟨l.row,(i:Int),l.num,l.addrs⟩:Flood)]) Y Y) y_ (by simp only[List.length_singleton];omega) (by simp only[List.length_singleton];omega)) ?_
  refine T ?_
  refine Ac 901 Y ?_
  refine Ac 902 Y ?_
  refine Ac 903 Y ?_
  refine Ac 904 Y ?_
  refine Ac 905 Y ?_
  refine Ac 66 Y ?_
  refine Ac 907 Y ?_
  refine Ac 908 Y ?_
  exact D
theorem Apl (n:Net) (hn:n.Fin) (l:LineM) (hl:LineW l):Sy.Spec Tryz.prog 287 [Aj n,Al l] [] (.tup [Aj (putVrf n l).1,Aa (putVrf n l).2]) []:=cT F287 Tryz.ntmps287 fun F hF=>by
 have hok:=@beg_ok n l 8
 have hres:=putVrf.eq_1 n l
 have q1:=Wu n hn l hl 8
 have qcopy:=Mc n hn
 generalize putVrf n l=res at *
 generalize begT n l 8=b at *
 obtain ⟨d,e⟩:=b
 dsimp only at hres hok q1
 by_cases h1:e≠0
 ·have g1:(e != 0)=true:=by rw[bne_iff_ne];exact h1
  rw[if_pos h1]at hres
  subst hres
  refine T ?_
  refine C q1 F347 ?_
  refine Ag 4 (Bj emptyN) Y (.cons .nil (.cons .nil (.cons .nil (.cons .nil (.cons .nil (.cons .nil (.cons .nil (.cons .nil .nil)))))))) ?_
  refine T ?_
  exact D
 have g1:(e != 0)=false:=by rw[bne_eq_false_iff_eq];omega
 rw[if_neg h1]at hres
 obtain ⟨_,hr,i,hi,hlt⟩:=hok z_
 subst hi
 clear hok
 have hlt0:((i:Nat):Int).toNat<n.devices.length:=hlt
 have hnth:nth n.devices (i:Int)=n.devices[((i:Nat):Int).toNat]'hlt0:=As hlt0
 clear hnth
 have hli:=hl.fin.i
 have hle:=hl.fin.e
 have q2:=Z1 n hn hr (i:Int) l.name
 have q5:=I8 l.imports z_
 have q6:=I8 l.exports z_
 have hfl:n.vrfs.length<2147483648:=hn.vrfs
 generalize Aco n (i:Int) l.name=v2 at *
 by_cases h2:0≤v2
 ·have g2:decide (v2≥0)=true:=decide_eq_true h2
  rw[if_pos h2]at hres
  subst hres
  refine T ?_
  refine C q1 F347 ?_
  refine C q2 F348 ?_
  refine Ag 4 (Bj emptyN) Y (.cons .nil (.cons .nil (.cons .nil (.cons .nil (.cons .nil (.cons .nil (.cons .nil (.cons .nil .nil)))))))) ?_
  refine T ?_
  exact D
 have g2:decide (v2≥0)=false:=decide_eq_false h2
 rw[if_neg h2]at hres
 by_cases h5:n.vrfs.length=16
 ·have g5:((n.vrfs.length:Int) == 16)=true:=by rw[beq_iff_eq];omega
  rw[if_pos h5]at hres
  subst hres
  refine T ?_
  refine C q1 F347 ?_
  refine C q2 F348 ?_
  refine Ag 4 (Bj emptyN) Y (.cons .nil (.cons .nil (.cons .nil (.cons .nil (.cons .nil (.cons .nil (.cons .nil (.cons .nil .nil)))))))) ?_
  refine T ?_
  exact D
 have g5:((n.vrfs.length:Int) == 16)=false:=by rw[beq_eq_false_iff_ne];omega
 rw[if_neg h5]at hres
 subst hres
 refine T ?_
 refine C q1 F347 ?_
 refine C q2 F348 ?_
 refine X (Af [(0,901),(1,902),(2,903),(3,904),(4,905),(5,906),(6,907),(7,908)] Y F61 qcopy Y W Y V) ?_
 refine C q5 F159 ?_
 refine C q6 F159 ?_
 refine Xd (Ak Γ.toTy 51 Y Y Y Y Y (.row Y) (.lit (e:=Cd) (l:=[(⟨l.row,(i:Int),l.name,l.imports,l.exports⟩:Vrf)]) Y Y) y_ (by simp only[List.length_singleton];omega) (by simp only[List.length_singleton];omega)) ?_
 refine T ?_
 refine Ac 901 Y ?_
 refine Ac 902 Y ?_
 refine Ac 903 Y ?_
 refine Ac 904 Y ?_
 refine Ac 905 Y ?_
 refine Ac 906 Y ?_
 refine Ac 51 Y ?_
 refine Ac 908 Y ?_
 exact D
end Go.Sy.YtjenpnjajjplkaaGreatDoor
namespace Go.Sy.YtjenpnjajjplkaaGreatDoor
open Go.Proofs
def B3 (f:List Int):Prop:=∀ i (h:i<f.length),0≤f[i]∧f[i]≤i
def Acv:Nat→List Int→Int→List Int × Int
 | 0,f,i=>(f,i)
 | k+1,f,i=>if nth f i=i then (f,i) else Acv k (f.set i.toNat (nth f (nth f i))) (nth f (nth f i))
def E1 (f:List Int) (i:Int):List Int × Int:=Acv (i.toNat+1) f i
def Iw (f:List Int) (a b:Int):List Int × Bool :=
 let x:=E1 f a
 let y:=E1 x.1 b
 (y.1.set (max x.2 y.2).toNat (min x.2 y.2),x.2 != y.2)
def B8 (k:Nat):List Int:=(List.range k).map fun i:Nat=>(i:Int)
def Dg (n:Net) (f:List Int) (i:Int) (v:Int):List Int:=if (linkDomT n i v).2=true then (Iw f (Ds n (nth n.ports i).dev v) (linkDomT n i v).1).1 else f
def E5 (n:Net) (f:List Int) (i:Nat):List Int:=((nth n.ports i).tagged++[(nth n.ports i).native]).foldl (fun f v=>Dg n f i v) f
def K0 (n:Net) (f:List Int):List Int:=(List.range n.ports.length).foldl (E5 n) f
def Hc:Int→List Int→Int
 | m,[]=>m
 | m,x::l=>Hc (min m x) l
def Za (l:List Int):Int:=Hc (nth l 0) (l.drop 1)
def Ol (n:Net):List Int→Nat→List Domain→Int × Bool
 | _,_,[]=>(0,false)
 | f,i,d::r=>if d.peers=[] then Ol n f (i+1) r else
  let x:=Iw f i ((n.domains.length:Int)+min (i:Int) (Za d.peers))
  if x.2=false then (d.row,true) else Ol n x.1 (i+1) r
def loopT (n:Net):Int × Bool:=if Ah n=false then (0,false) else Ol n (K0 n (B8 (2 * n.domains.length))) 0 n.domains
def finishT (n:Net):Net × Int × Int:=if (meshNT n).2.2≠0 then meshNT n else if (loopT (meshNT n).1).2=true then (emptyN,(loopT (meshNT n).1).1,38) else ((meshNT n).1,0,0)
def Hw:Net→List LineM→Net × Int × Int
 | n,[]=>finishT n
 | n,l::r=>if (putT n l).2≠0 then (emptyN,l.row,(putT n l).2) else Hw (putT n l).1 r
def Co (l:List LineM):Net × Int × Int:=Hw emptyN l
def netTextT (b:List UInt8):Net × Int × Int:=if (textT b).2.2≠0 then (emptyN,(textT b).2.1,(textT b).2.2) else Co (textT b).1
end Go.Sy.YtjenpnjajjplkaaGreatDoor
namespace Go.Sy.YtjenpnjajjplkaaGreatDoor
open Go.Proofs
attribute [local irreducible] Go.Sy.G Go.Sy.DR
set_option maxRecDepth 100000
set_option maxHeartbeats 4000000
theorem Qb {a b x:Int} (hb:0≤b∧b≤32) (ha:0≤a∧a<4294967296) (hx:0≤x∧x<4294967296):Aby a b x=M8 a b x:=by
 obtain ⟨y,rfl⟩:=Int.eq_ofNat_of_zero_le ha.1
 obtain ⟨z,rfl⟩:=Int.eq_ofNat_of_zero_le hx.1
 obtain ⟨k,hk,hk2⟩:∃ k:Nat,(32-b).toNat=k∧k≤32:=⟨_,rfl,by omega⟩
 have hq:0<2 ^ k:=Nat.two_pow_pos k
 rw[Aby,Zv b hb,hk,Anx y z k z_ z_ hk2,M8,decide_eq_true hb.1,decide_eq_true hb.2,Bool.true_and,Bool.true_and,H2 y k b hb hk,H2 z k b hb hk]
 generalize 2 ^ k=q at *
 have h1:=Nat.div_add_mod y q
 have h2:=Nat.div_add_mod z q
 have e1:y-y % q=q * (y / q):=by omega
 have e2:z-z % q=q * (z / q):=by omega
 rw[e1,e2,Bool.eq_iff_iff,decide_eq_true_eq,beq_iff_eq]
 constructor
 ·intro h;rw[h]
 ·intro h
  exact Nat.eq_of_mul_eq_mul_left hq (by exact_mod_cast h)
theorem clashS (n:Net) (x:Irb) (hv:0≤x.vrf∧x.vrf.toNat<n.vrfs.length) (hb:0≤x.bits∧x.bits≤32) (hx:0≤x.addr∧x.addr<4294967296) (dev a b:Int) (ha:0≤a∧a<4294967296) (hb2:0≤b∧b≤32) :
  Sy.Spec Tryz.prog 350 [Aj n,Cf x,Aa dev,Ti a b] [] (Ab (clashB n dev a b x)) []:=cT F350 Tryz.ntmps350 fun F hF=>by
 have q1:=Afl x.addr x.bits a hb
 have q2:=Afl a b x.addr hb2
 rw[Qb hb hx ha]at q1
 rw[Qb hb2 ha hx]at q2
 have hc:=clashB.eq_1 n dev a b x
 have hv0:=hv.2
 rw[As hv0]at hc
 generalize clashB n dev a b x=r at *
 generalize M8 x.addr x.bits a=p1 at *
 generalize M8 a b x.addr=p2 at *
 cases h1:(x.addr == a) with
 | true =>
  rw[h1,Bool.true_or]at hc
  subst hc
  refine T ?_
  exact D
 | false =>
  rw[h1,Bool.false_or]at hc
  cases h2:((n.vrfs[x.vrf.toNat]'hv0).dev != dev) with
  | false =>
   rw[h2,Bool.false_and]at hc
   subst hc
   refine T ?_
   exact D
  | true =>
   rw[h2,Bool.true_and]at hc
   cases p1 with
   | true =>
    rw[Bool.true_or]at hc
    subst hc
    refine T ?_
    refine C q1 F383 ?_
    exact D
   | false =>
    rw[Bool.false_or]at hc
    subst hc
    refine T ?_
    refine C q1 F383 ?_
    refine C q2 F383 ?_
    exact D
theorem irbC (n:Net) (x:Irb) (hv:0≤x.vrf∧x.vrf.toNat<n.vrfs.length) (hb:0≤x.bits∧x.bits≤32) (hx:0≤x.addr∧x.addr<4294967296) (dev:Int) (l:LineM) (ha:0≤l.addr∧l.addr<4294967296) (hb2:0≤l.bits∧l.bits≤32) :
  Sy.Spec Tryz.prog 349 [Cf x,.ref 8 (Aj n) 0,.ref 1 (Aa dev) 0,.ref 17 (Al l) 0] [] (Ab (clashB n dev l.addr l.bits x)) []:=cT F349 Tryz.ntmps349 fun F hF=>by
 have q:=clashS n x hv hb hx dev l.addr l.bits ha hb2
 generalize clashB n dev l.addr l.bits x=r at *
 refine T ?_
 refine C q F350 ?_
 exact D
theorem Ah7 {n:Net} {l:LineM} {k:Int} (h:fitsB n l k=true):l.kind=k∧B1 l=true∧Ah n=true:=by
 unfold fitsB at h
 simp only[Bool.and_eq_true,beq_iff_eq]at h
 exact⟨h.1,h.2.1,h.2.2⟩
theorem Xa {l:LineM} (h:B1 l=true) (hk:l.kind=9):0≤l.bits∧l.bits≤32:=by
 rw[B1,Bool.and_eq_true]at h
 have:=h.1
 simp[A7,hk]at this
 have:=Mt this.2.2
 omega
theorem Aqn (n:Net) (hn:n.Fin) (ha:Ha n) (l:LineM) (hl:LineW l):Sy.Spec Tryz.prog 288 [Aj n,Al l] [] (.tup [Aj (putIrb n l).1,Aa (putIrb n l).2]) []:=cT F288 Tryz.ntmps288 fun F hF=>by
 have hok:=@beg_ok n l 9
 have hres:=putIrb.eq_1 n l
 have q1:=Wu n hn l hl 9
 have qcopy:=Mc n hn
 generalize putIrb n l=res at *
 generalize begT n l 9=b at *
 obtain ⟨d,e⟩:=b
 dsimp only at hres hok q1
 by_cases h1:e≠0
 ·have g1:(e != 0)=true:=by rw[bne_iff_ne];exact h1
  rw[if_pos h1]at hres
  subst hres
  refine T ?_
  refine C q1 F347 ?_
  refine Ag 4 (Bj emptyN) Y (.cons .nil (.cons .nil (.cons .nil (.cons .nil (.cons .nil (.cons .nil (.cons .nil (.cons .nil .nil)))))))) ?_
  refine T ?_
  exact D
 have g1:(e != 0)=false:=by rw[bne_eq_false_iff_eq];omega
 rw[if_neg h1]at hres
 obtain ⟨hfit,hr,i,hi,hlt⟩:=hok z_
 subst hi
 clear hok
 have hlt0:((i:Nat):Int).toNat<n.devices.length:=hlt
 have hnth:nth n.devices (i:Int)=n.devices[((i:Nat):Int).toNat]'hlt0:=As hlt0
 clear hnth
 obtain ⟨hk9,hrl,_⟩:=Ah7 hfit
 have hbits:=Xa hrl hk9
 have q2:=Z1 n hn hr (i:Int) l.name
 have q3:=Ja n hn hr (i:Int) l.vlan
 have hirb:∀ x∈n.irbs,(0≤x.vrf∧x.vrf.toNat<n.vrfs.length)∧(0≤x.bits∧x.bits≤32):=fun x hx=>by
  obtain ⟨j,hj,rfl⟩:=List.getElem_of_mem hx
  have:=Aou hr hj
  simp only[Tu,Ap,Bool.and_eq_true,decide_eq_true_eq]at this
  omega
 have qc:=Ua n.irbs (clashB n (i:Int) l.addr l.bits) 349 [] [.ref 8 (Aj n) 0,.ref 1 (Aa (i:Int)) 0,.ref 17 (Al l) 0] rfl (fun x hx=>⟨⟨_,_,F349⟩,irbC n x (hirb x hx).1 (hirb x hx).2 (ha x hx) (i:Int) l hl.ok.addr hbits⟩) hn.irbs
 rw[Km]at qc
 have hdr:Ds n (i:Int) l.vlan<0∨∃ k:Nat,Ds n (i:Int) l.vlan=k∧k<n.domains.length:=by
  by_cases h:Ds n (i:Int) l.vlan<0
  ·exact .inl h
  ·exact .inr (D2 h)
 generalize Aco n (i:Int) l.name=v2 at *
 generalize Ds n (i:Int) l.vlan=dm at *
 generalize n.irbs.any (clashB n (i:Int) l.addr l.bits)=cl at *
 by_cases h2:v2<0
 ·have g2:decide (v2<0)=true:=decide_eq_true h2
  rw[if_pos h2]at hres
  subst hres
  refine T ?_
  refine C q1 F347 ?_
  refine C q2 F348 ?_
  refine C q3 F168 ?_
  refine Ag 4 (Bj emptyN) Y (.cons .nil (.cons .nil (.cons .nil (.cons .nil (.cons .nil (.cons .nil (.cons .nil (.cons .nil .nil)))))))) ?_
  refine T ?_
  exact D
 have g2:decide (v2<0)=false:=decide_eq_false h2
 rw[if_neg h2]at hres
 by_cases h3:dm<0
 ·have g3:decide (dm<0)=true:=decide_eq_true h3
  rw[if_pos h3]at hres
  subst hres
  refine T ?_
  refine C q1 F347 ?_
  refine C q2 F348 ?_
  refine C q3 F168 ?_
  refine Ag 4 (Bj emptyN) Y (.cons .nil (.cons .nil (.cons .nil (.cons .nil (.cons .nil (.cons .nil (.cons .nil (.cons .nil .nil)))))))) ?_
  refine T ?_
  exact D
 have g3:decide (dm<0)=false:=decide_eq_false h3
 rw[if_neg h3]at hres
 obtain ⟨k,hk,hkl⟩:=hdr.resolve_left h3
 subst hk
 clear hdr
 have hkl0:((k:Nat):Int).toNat<n.domains.length:=hkl
 have hnd:nth n.domains (k:Int)=n.domains[((k:Nat):Int).toNat]'hkl0:=As hkl0
 rw[hnd]at hres
 by_cases h4:0≤(n.domains[((k:Nat):Int).toNat]'hkl0).irb
 ·have g4:decide ((n.domains[((k:Nat):Int).toNat]'hkl0).irb≥0)=true:=decide_eq_true h4
  rw[if_pos (.inl h4)]at hres
  subst hres
  refine T ?_
  refine C q1 F347 ?_
  refine C q2 F348 ?_
  refine C q3 F168 ?_
  refine Ag 4 (Bj emptyN) Y (.cons .nil (.cons .nil (.cons .nil (.cons .nil (.cons .nil (.cons .nil (.cons .nil (.cons .nil .nil)))))))) ?_
  refine T ?_
  exact D
 have g4:decide ((n.domains[((k:Nat):Int).toNat]'hkl0).irb≥0)=false:=decide_eq_false h4
 cases cl with
 | true =>
  rw[if_pos (.inr rfl)]at hres
  subst hres
  refine T ?_
  refine C q1 F347 ?_
  refine C q2 F348 ?_
  refine C q3 F168 ?_
  refine A6 2 8 (Aj n) Y Y Y ?_
  refine A6 3 17 (Al l) Y Y Y ?_
  refine A6 6 1 (Aa (i:Int)) Y Y Y ?_
  refine C qc F263 ?_
  refine Ag 4 (Bj emptyN) Y (.cons .nil (.cons .nil (.cons .nil (.cons .nil (.cons .nil (.cons .nil (.cons .nil (.cons .nil .nil)))))))) ?_
  refine T ?_
  exact D
 | false =>
  rw[if_neg (fun h=>h.elim h4 qe)]at hres
  subst hres
  have hne:n.domains≠[]:=fun e=>by rw[e]at hkl;cases hkl
  have hfl:n.irbs.length<2147483648:=hn.irbs
  refine T ?_
  refine C q1 F347 ?_
  refine C q2 F348 ?_
  refine C q3 F168 ?_
  refine A6 2 8 (Aj n) Y Y Y ?_
  refine A6 3 17 (Al l) Y Y Y ?_
  refine A6 6 1 (Aa (i:Int)) Y Y Y ?_
  refine C qc F263 ?_
  refine X (Af [(0,901),(1,902),(2,903),(3,904),(4,905),(5,906),(6,907),(7,908)] Y F61 qcopy Y W Y V) ?_
  refine⟨hne,?_⟩
  refine T ?_
  refine⟨(⟨(n.domains[((k:Nat):Int).toNat]'hkl0).dev,(n.domains[((k:Nat):Int).toNat]'hkl0).vlan,(n.domains[((k:Nat):Int).toNat]'hkl0).vni,(n.irbs.length:Int),(n.domains[((k:Nat):Int).toNat]'hkl0).row,(n.domains[((k:Nat):Int).toNat]'hkl0).peers⟩:Domain),Y,Y,?_⟩
  refine T ?_
  refine X (Ak Γ.toTy 77 Y Y Y Y Y (.row Y) (.lit (e:=Cf) (l:=[(⟨l.row,(k:Int),v2,l.addr,l.bits⟩:Irb)]) Y Y) y_ (by simp only[List.length_singleton];omega) (by simp only[List.length_singleton];omega)) ?_
  refine Ac 901 Y ?_
  refine Ac 902 Y ?_
  refine Ac 903 Y ?_
  refine Ac 904 Y ?_
  refine Ac 905 Y ?_
  refine Ac 906 Y ?_
  refine Ac 907 Y ?_
  refine Ac 77 Y ?_
  exact D
end Go.Sy.YtjenpnjajjplkaaGreatDoor
