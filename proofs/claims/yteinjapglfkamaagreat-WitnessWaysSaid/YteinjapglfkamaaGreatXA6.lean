/-
  Sy31 Sy32 Sy33 S3 K1 K2 K3 K4 K5 K6 K7 K26 K27 K28 K29 Sy34 Sy35 K30 K31 K32 K33: parts of a proof, joined by program.
-/
import Derived.Test.YteinjapglfkamaaGreatXA5
import Derived.Test.YteinjapglfkamaaGreatXA3
namespace Go.Sy
theorem Lz {P:Program} (Γ:Ty P) {o:Oper} {s:SS} {t:TypeId} {ti:TI} {et:TypeId} {len esz sz g:Nat} {y:Operand} {ik:IntKind} {n:Int} {z:SV} (k:Nat)
  (h:o.op=.indexAddr t (.global g) y) (ht:Γ.get t=some ti) (hk:ti.k=.array et len esz) (hb:s.h k=.glob sz z g) (hy:ev s y=.val (.int ik n)) (h0:0≤n) (hn:n.toNat<len) :
  Good P o s ⟨.ref sz z (n.toNat * esz),[k],[]⟩ :=
 Good.pure fun κ a w _ hr ho=>by
  have h1:=ho k qy
  have h2:=hr y (by simp[h,Op.operands])
  rw[hb]at h1
  rw[hy]at h2
  simp only[ObOK,Rd,RdD]at h1
  obtain ⟨b,oo,u,e1,e2,e3,e4,e5⟩:=h1
  obtain ⟨hu,i,q1,q2⟩:=M2 Γ ht hk
  simp only[Nat.add_zero,Value.pointer.injEq,Option.some.injEq,Addr.mk.injEq,and_true]at e1
  obtain ⟨rfl,rfl⟩:=e1
  refine⟨.pointer (some ⟨g,0+n.toNat * esz,none⟩),?_,?_⟩
  ·have hg:a.eval (.global g)=.pointer (some ⟨g,0,none⟩):=rfl
   simp only[execOp,h,hg,h2.val]
   simp[K6 w hu q1 q2 h0 hn]
  ·simp only[Rd,RdD]
   exact⟨g,0,u,E,e2,e3,e4,e5⟩
theorem Ob.shp_glob {x:Ob} {sz g:Nat} {z:SV} (h:x.shp=(Ob.glob sz z g).shp):x=.glob sz z g:=by
 cases x<;>simp_all[Ob.shp]
theorem GoodX.glob {P:Program} (Γ:Ty P) {o:Oper} {s:SS} {t:TypeId} {ti:TI} {et:TypeId} {len esz sz g:Nat} {y:Operand} {ik:IntKind} {n:Int} {z:SV} (k:Nat)
  (h:o.op=.indexAddr t (.global g) y) (ht:Γ.get t=some ti) (hk:ti.k=.array et len esz) (hb:s.h k=.glob sz z g) (hy:ev s y=.val (.int ik n)) (h0:0≤n) (hn:n.toNat<len) :
  GoodX P o s ⟨.ref sz z (n.toNat * esz),[k],[]⟩ where
 good:=(Lz Γ k h ht hk hb hy h0 hn).two
 idx _:=⟨rfl,fun s' h1 h2=>Lz Γ k h ht hk (Ob.shp_glob ((h2 k qy).trans (congrArg Ob.shp hb))) ((h1 y (by simp[h,Op.operands])).trans hy) h0 hn⟩
 st hs:=by simp[J8,h]at hs
section
open Go.ChangeShapes Go.WideShapes Go.ChangeAt Go.RowKit
variable {H:Type} {enc:TypeId × Value→H} {P:Program}
end
end Go.Sy
namespace Go.Sy
theorem Ha {P:Program} (Γ:Ty P) {o:Oper} {s:SS} {t:TypeId} {ti:TI} {et:TypeId} {len:Nat} {x y:Operand} {ik:IntKind} {n:Int} {l:List SV} {z:SV} {k:EK} (h:o.op=.index t x y) (ht:Γ.get t=some ti) (hk:ti.k=.array et len 1)
  (he:P.underlying et=some (EK.desc k)) (hx:ev s x=.agg l) (hy:ev s y=.val (.int ik n)) (h0:0≤n) (hn:n.toNat<len) (hz:Ee l n.toNat=some z):Good P o s ⟨z,[],[]⟩ :=
 Good.pure fun κ a w _ hr _=>by
  have h1:=hr x (by simp[h,Op.operands])
  have h2:=hr y (by simp[h,Op.operands])
  rw[hx]at h1
  rw[hy]at h2
  simp only[Rd]at h1
  obtain ⟨cs,e1,_,e2⟩:=h1
  obtain ⟨v,e3,e4⟩:=e2.getT hz
  obtain ⟨hu,i,q1,q2⟩:=M2 Γ ht hk
  have hp:=Wu (P:=P) w he cs.toArray e3
  have hlt:n<len:=by omega
  refine⟨v,?_,e4⟩
  simp[execOp,h,e1,h2.val,Instr.index,run_underlying hu,asIntOf,h0,hlt,sizeOf,typeInfo,q1,q2,hp]
theorem Bc {C:Cx} {k:List KI} {s:SS} (d:Nat) (l':List SV) {l:List SV} (h:s.h d=.box l) (hv:VwL s [] l l') (hg:G C k ⟨s.σ,upd s.h d (.box l')⟩):G C k s:=fun κ a w hs =>
 hg κ a w ⟨hs.defers,hs.size,hs.inv,hs.ctx,hs.slot,fun i=>by
  show ObOK κ w i (upd s.h d (.box l') i)
  by_cases hi:i=d
  ·subst hi
   rw[Bi]
   have:=hs.obj i
   rw[h]at this
   obtain ⟨b,cs,T,fr,e1,e2,e3,e4,e5⟩:=this
   exact⟨b,cs,T,fr,e1,e2,e3,e4,VwL.rd hs.inv (fun _ hn=>by cases hn) hv e5⟩
  ·rw[B0 _ _ hi];exact hs.obj i⟩
end Go.Sy
namespace Go.Sy.YteinjapglfkamaaGreat
open Go.Proofs
attribute [local irreducible] Go.Sy.G Go.Sy.DR
set_option maxRecDepth 100000
set_option maxHeartbeats 4000000
theorem Oa {κ:Ka} {w:World} {k sz:Nat} {α:Type} {e:α→SV} {l:List α} (hne:l≠[]) (h:ObOK κ w k (.row sz e l)):∃ b n c,κ k=.row b n c:=by
 rcases h with ⟨_,h⟩ | ⟨b,cap,_,_,_,h,_⟩
 ·exact absurd h hne
 ·exact⟨b,_,cap,h⟩
theorem Abv (l:List Device) (hl:l.length<2147483648):Sy.Spec Tryz.prog 162 [.sl 5 Bm l] [] (.sl 5 Bm l) []:=Ab Γ hm 100 F162 Tryz.ntmps162 rfl fun F hF=>by
 conv=>whnf
 refine Eg E (.inl E) E E E .sl E E ?_
 intro b hb
 cases b
 ·(refine rg ?_;(conv=>whnf);refine aF ?_;refine rg ?_;conv=>whnf)
  refine Ai (Am Γ.toTy 7 E E E E E (.lit (e:=Bm) (l:=[]) E E) .sl qy (by simp;omega) (by simp;omega)) E E ?_
  refine Au 7 E ?_
  refine rg ?_;conv=>whnf
  exact Ac E (.cons .tmp .nil) E E
 ·have h0:l=[]:=List.eq_nil_of_length_eq_zero (hb rfl)
  subst h0
  (refine rg ?_;(conv=>whnf);refine aT ?_;refine rg ?_;conv=>whnf)
  refine Ap 2 5 Bm E ?_
  exact Ac E (.cons .tmp .nil) E E
theorem Ag2 (l:List Link) (hl:l.length<2147483648):Sy.Spec Tryz.prog 164 [.sl 3 Ch l] [] (.sl 3 Ch l) []:=Ab Γ hm 100 F164 Tryz.ntmps164 rfl fun F hF=>by
 conv=>whnf
 refine Eg E (.inl E) E E E .sl E E ?_
 intro b hb
 cases b
 ·(refine rg ?_;(conv=>whnf);refine aF ?_;refine rg ?_;conv=>whnf)
  refine Ai (Am Γ.toTy 7 E E E E E (.lit (e:=Ch) (l:=[]) E E) .sl qy (by simp;omega) (by simp;omega)) E E ?_
  refine Au 7 E ?_
  refine rg ?_;conv=>whnf
  exact Ac E (.cons .tmp .nil) E E
 ·have h0:l=[]:=List.eq_nil_of_length_eq_zero (hb rfl)
  subst h0
  (refine rg ?_;(conv=>whnf);refine aT ?_;refine rg ?_;conv=>whnf)
  refine Ap 2 3 Ch E ?_
  exact Ac E (.cons .tmp .nil) E E
theorem Abs (l:List Static) (hl:l.length<2147483648):Sy.Spec Tryz.prog 166 [.sl 4 Bk l] [] (.sl 4 Bk l) []:=Ab Γ hm 100 F166 Tryz.ntmps166 rfl fun F hF=>by
 conv=>whnf
 refine Eg E (.inl E) E E E .sl E E ?_
 intro b hb
 cases b
 ·(refine rg ?_;(conv=>whnf);refine aF ?_;refine rg ?_;conv=>whnf)
  refine Ai (Am Γ.toTy 7 E E E E E (.lit (e:=Bk) (l:=[]) E E) .sl qy (by simp;omega) (by simp;omega)) E E ?_
  refine Au 7 E ?_
  refine rg ?_;conv=>whnf
  exact Ac E (.cons .tmp .nil) E E
 ·have h0:l=[]:=List.eq_nil_of_length_eq_zero (hb rfl)
  subst h0
  (refine rg ?_;(conv=>whnf);refine aT ?_;refine rg ?_;conv=>whnf)
  refine Ap 2 4 Bk E ?_
  exact Ac E (.cons .tmp .nil) E E
theorem Akl (l:List Irb) (hl:l.length<2147483648):Sy.Spec Tryz.prog 169 [.sl 5 Cg l] [] (.sl 5 Cg l) []:=Ab Γ hm 100 F169 Tryz.ntmps169 rfl fun F hF=>by
 conv=>whnf
 refine Eg E (.inl E) E E E .sl E E ?_
 intro b hb
 cases b
 ·(refine rg ?_;(conv=>whnf);refine aF ?_;refine rg ?_;conv=>whnf)
  refine Ai (Am Γ.toTy 7 E E E E E (.lit (e:=Cg) (l:=[]) E E) .sl qy (by simp;omega) (by simp;omega)) E E ?_
  refine Au 7 E ?_
  refine rg ?_;conv=>whnf
  exact Ac E (.cons .tmp .nil) E E
 ·have h0:l=[]:=List.eq_nil_of_length_eq_zero (hb rfl)
  subst h0
  (refine rg ?_;(conv=>whnf);refine aT ?_;refine rg ?_;conv=>whnf)
  refine Ap 2 5 Cg E ?_
  exact Ac E (.cons .tmp .nil) E E
theorem Kw (l:List Int) (hl:l.length<2147483648):Sy.Spec Tryz.prog 170 [.sl 1 Aa l] [] (.sl 1 Aa l) []:=Ab Γ hm 100 F170 Tryz.ntmps170 rfl fun F hF=>by
 conv=>whnf
 refine Eg E (.inl E) E E E .sl E E ?_
 intro b hb
 cases b
 ·(refine rg ?_;(conv=>whnf);refine aF ?_;refine rg ?_;conv=>whnf)
  refine Ai (Am Γ.toTy 7 E E E E E (.lit (e:=Aa) (l:=[]) E E) .sl qy (by simp;omega) (by simp;omega)) E E ?_
  refine Au 7 E ?_
  refine rg ?_;conv=>whnf
  exact Ac E (.cons .tmp .nil) E E
 ·have h0:l=[]:=List.eq_nil_of_length_eq_zero (hb rfl)
  subst h0
  (refine rg ?_;(conv=>whnf);refine aT ?_;refine rg ?_;conv=>whnf)
  refine Ap 2 1 Aa E ?_
  exact Ac E (.cons .tmp .nil) E E
theorem Akk (l:List Int) (hl:l.length<2147483648):Sy.Spec Tryz.prog 171 [.sl 1 Bj l] [] (.sl 1 Bj l) []:=Ab Γ hm 100 F171 Tryz.ntmps171 rfl fun F hF=>by
 conv=>whnf
 refine Eg E (.inl E) E E E .sl E E ?_
 intro b hb
 cases b
 ·(refine rg ?_;(conv=>whnf);refine aF ?_;refine rg ?_;conv=>whnf)
  refine Ai (Am Γ.toTy 7 E E E E E (.lit (e:=Bj) (l:=[]) E E) .sl qy (by simp;omega) (by simp;omega)) E E ?_
  refine Au 7 E ?_
  refine rg ?_;conv=>whnf
  exact Ac E (.cons .tmp .nil) E E
 ·have h0:l=[]:=List.eq_nil_of_length_eq_zero (hb rfl)
  subst h0
  (refine rg ?_;(conv=>whnf);refine aT ?_;refine rg ?_;conv=>whnf)
  refine Ap 2 1 Bj E ?_
  exact Ac E (.cons .tmp .nil) E E
theorem Ag3 (l:List Bool) (hl:l.length<2147483648):Sy.Spec Tryz.prog 118 [.sl 1 Ad l] [] (.sl 1 Ad l) []:=Ab Γ hm 100 F118 Tryz.ntmps118 rfl fun F hF=>by
 conv=>whnf
 refine Eg E (.inl E) E E E .sl E E ?_
 intro b hb
 cases b
 ·(refine rg ?_;(conv=>whnf);refine aF ?_;refine rg ?_;conv=>whnf)
  refine Ai (Am Γ.toTy 7 E E E E E (.lit (e:=Ad) (l:=[]) E E) .sl qy (by simp;omega) (by simp;omega)) E E ?_
  refine Au 7 E ?_
  refine rg ?_;conv=>whnf
  exact Ac E (.cons .tmp .nil) E E
 ·have h0:l=[]:=List.eq_nil_of_length_eq_zero (hb rfl)
  subst h0
  (refine rg ?_;(conv=>whnf);refine aT ?_;refine rg ?_;conv=>whnf)
  refine Ap 2 1 Ad E ?_
  exact Ac E (.cons .tmp .nil) E E
theorem Ag1 (l:List Port) (hl:l.length<2147483648):Sy.Spec Tryz.prog 163 [.sl 7 A5 l] [] (.osl 0) [(0,.row 7 A5 l)]:=Ab Γ hm 100 F163 Tryz.ntmps163 rfl fun F hF=>by
 conv=>whnf
 refine Eg E (.inl E) E E E .sl E E ?_
 intro b hb
 cases b
 ·(refine rg ?_;(conv=>whnf);refine aF ?_;refine rg ?_;conv=>whnf)
  refine Ai (Am Γ.toTy 7 E E E E E (.lit (e:=A5) (l:=[]) E E) .sl qy (by simp;omega) (by simp;omega)) E E ?_
  refine rg ?_;conv=>whnf
  exact done E (.cons .tmp .nil) [(0,7)] [(0,.row 7 A5 l)] (fun _ h=>h) E E ⟨Y,⟨.inl E,E,Y⟩,E,E⟩
 ·have h0:l=[]:=List.eq_nil_of_length_eq_zero (hb rfl)
  subst h0
  (refine rg ?_;(conv=>whnf);refine aT ?_;refine rg ?_;conv=>whnf)
  refine B7 2 1000 7 A5 E E ?_
  exact done E (.cons .tmp .nil) [(0,1000)] [(0,.row 7 A5 [])] (fun _ h=>h) E E ⟨Y,⟨.inl E,E,Y⟩,E,E⟩
theorem Abu (l:List Domain) (hl:l.length<2147483648):Sy.Spec Tryz.prog 165 [.sl 6 At l] [] (.osl 0) [(0,.row 6 At l)]:=Ab Γ hm 100 F165 Tryz.ntmps165 rfl fun F hF=>by
 conv=>whnf
 refine Eg E (.inl E) E E E .sl E E ?_
 intro b hb
 cases b
 ·(refine rg ?_;(conv=>whnf);refine aF ?_;refine rg ?_;conv=>whnf)
  refine Ai (Am Γ.toTy 7 E E E E E (.lit (e:=At) (l:=[]) E E) .sl qy (by simp;omega) (by simp;omega)) E E ?_
  refine rg ?_;conv=>whnf
  exact done E (.cons .tmp .nil) [(0,7)] [(0,.row 6 At l)] (fun _ h=>h) E E ⟨Y,⟨.inl E,E,Y⟩,E,E⟩
 ·have h0:l=[]:=List.eq_nil_of_length_eq_zero (hb rfl)
  subst h0
  (refine rg ?_;(conv=>whnf);refine aT ?_;refine rg ?_;conv=>whnf)
  refine B7 2 1000 6 At E E ?_
  exact done E (.cons .tmp .nil) [(0,1000)] [(0,.row 6 At [])] (fun _ h=>h) E E ⟨Y,⟨.inl E,E,Y⟩,E,E⟩
theorem Aeq (l:List Flood) (hl:l.length<2147483648):Sy.Spec Tryz.prog 167 [.sl 4 Bw l] [] (.osl 0) [(0,.row 4 Bw l)]:=Ab Γ hm 100 F167 Tryz.ntmps167 rfl fun F hF=>by
 conv=>whnf
 refine Eg E (.inl E) E E E .sl E E ?_
 intro b hb
 cases b
 ·(refine rg ?_;(conv=>whnf);refine aF ?_;refine rg ?_;conv=>whnf)
  refine Ai (Am Γ.toTy 7 E E E E E (.lit (e:=Bw) (l:=[]) E E) .sl qy (by simp;omega) (by simp;omega)) E E ?_
  refine rg ?_;conv=>whnf
  exact done E (.cons .tmp .nil) [(0,7)] [(0,.row 4 Bw l)] (fun _ h=>h) E E ⟨Y,⟨.inl E,E,Y⟩,E,E⟩
 ·have h0:l=[]:=List.eq_nil_of_length_eq_zero (hb rfl)
  subst h0
  (refine rg ?_;(conv=>whnf);refine aT ?_;refine rg ?_;conv=>whnf)
  refine B7 2 1000 4 Bw E E ?_
  exact done E (.cons .tmp .nil) [(0,1000)] [(0,.row 4 Bw [])] (fun _ h=>h) E E ⟨Y,⟨.inl E,E,Y⟩,E,E⟩
theorem Akj (l:List Vrf) (hl:l.length<2147483648):Sy.Spec Tryz.prog 168 [.sl 5 Cv l] [] (.osl 0) [(0,.row 5 Cv l)]:=Ab Γ hm 100 F168 Tryz.ntmps168 rfl fun F hF=>by
 conv=>whnf
 refine Eg E (.inl E) E E E .sl E E ?_
 intro b hb
 cases b
 ·(refine rg ?_;(conv=>whnf);refine aF ?_;refine rg ?_;conv=>whnf)
  refine Ai (Am Γ.toTy 7 E E E E E (.lit (e:=Cv) (l:=[]) E E) .sl qy (by simp;omega) (by simp;omega)) E E ?_
  refine rg ?_;conv=>whnf
  exact done E (.cons .tmp .nil) [(0,7)] [(0,.row 5 Cv l)] (fun _ h=>h) E E ⟨Y,⟨.inl E,E,Y⟩,E,E⟩
 ·have h0:l=[]:=List.eq_nil_of_length_eq_zero (hb rfl)
  subst h0
  (refine rg ?_;(conv=>whnf);refine aT ?_;refine rg ?_;conv=>whnf)
  refine B7 2 1000 5 Cv E E ?_
  exact done E (.cons .tmp .nil) [(0,1000)] [(0,.row 5 Cv [])] (fun _ h=>h) E E ⟨Y,⟨.inl E,E,Y⟩,E,E⟩
theorem copyS (n:Net) (hn:n.Fin) :
  Sy.Spec Tryz.prog 113 [Al n] [] (Al n) []:=Ab Γ hm 100 F113 Tryz.ntmps113 rfl fun F hF=>by
 have h1:n.devices.length<2147483648∧n.ports.length<2147483648∧n.links.length<2147483648∧n.domains.length<2147483648∧n.statics.length<2147483648∧n.floods.length<2147483648∧n.vrfs.length<2147483648∧n.irbs.length<2147483648:=⟨hn.devices,hn.ports,hn.links,hn.domains,hn.statics,hn.floods,hn.vrfs,hn.irbs⟩
 have h2:(∀ p∈n.ports,p.tagged.length<2147483648)∧(∀ p∈n.domains,p.peers.length<2147483648)∧(∀ p∈n.floods,p.addrs.length<2147483648)∧(∀ p∈n.vrfs,p.imports.length<2147483648∧p.exports.length<2147483648):=⟨hn.tagged,hn.peers,hn.addrs,fun v hv=>⟨hn.imports v hv,hn.exports v hv⟩⟩
 conv=>whnf
 refine Aq (Abv n.devices h1.1) F162 E E E qq E ?_
 refine rd qq ?_;conv=>whnf
 refine Bn (Ak [(0,14)] E F163 (Ag1 n.ports h1.2.1) E Y E ⟨.inr E,Y⟩) qq E ?_
 refine rd qq ?_;conv=>whnf
 refine Aq (Ag2 n.links h1.2.2.1) F164 E E E qq E ?_
 refine rd qq ?_;conv=>whnf
 refine Bn (Ak [(0,20)] E F165 (Abu n.domains h1.2.2.2.1) E Y E ⟨.inr E,Y⟩) qq E ?_
 refine rd qq ?_;conv=>whnf
 refine Aq (Abs n.statics h1.2.2.2.2.1) F166 E E E qq E ?_
 refine rd qq ?_;conv=>whnf
 refine Bn (Ak [(0,26)] E F167 (Aeq n.floods h1.2.2.2.2.2.1) E Y E ⟨.inr E,Y⟩) qq E ?_
 refine rd qq ?_;conv=>whnf
 refine Bn (Ak [(0,29)] E F168 (Akj n.vrfs h1.2.2.2.2.2.2.1) E Y E ⟨.inr E,Y⟩) qq E ?_
 refine rd qq ?_;conv=>whnf
 refine Aq (Akl n.irbs h1.2.2.2.2.2.2.2) F169 E E E qq E ?_
 refine rd qq ?_;conv=>whnf
 refine⟨qq,?_⟩
 conv=>whnf
 refine Aw n.ports.length (fun j=>[(2,.ptr 2 0),(3,.ptr 3 0),(36,Aa n.ports.length),(37,Aa j)]) (fun _=>[(2,.box [.val (.slice none 0 0),.val (.slice none 0 0),.val (.slice none 0 0),.val (.slice none 0 0),.val (.slice none 0 0),.val (.slice none 0 0),.val (.slice none 0 0),.val (.slice none 0 0)]),(3,.box [.sl 5 Bm n.devices,.osl 14,.sl 3 Ch n.links,.osl 20,.sl 4 Bk n.statics,.osl 26,.osl 29,.sl 5 Cg n.irbs]),(14,.row 7 A5 n.ports),(20,.row 6 At n.domains),(26,.row 4 Bw n.floods),(29,.row 5 Cv n.vrfs)]) []
  ⟨⟨rfl,rfl,rfl,rfl,rfl,rfl,rfl,rfl,trivial⟩,⟨.inl rfl,rfl,.inl rfl,rfl,.inl rfl,rfl,.inl rfl,rfl,.inl rfl,rfl,.inl rfl,rfl,trivial⟩,rfl,rfl⟩ ?_
 intro j hj
 refine rg ?_;conv=>whnf
 refine⟨fun h=>?_,fun h=>?_⟩
 ·have hlt:j<n.ports.length:=by simpa using h
  obtain ⟨p,hp⟩:∃ p,n.ports[(j:Int).toNat]'qn=p:=⟨_,rfl⟩
  have hne:n.ports≠[]:=fun e=>by rw[e]at hlt;cases hlt
  have hset:n.ports.set (j:Int).toNat p=n.ports:=by rw[← hp];exact List.set_getElem_self _
  have hpl:=h2.1 p (by rw[← hp];exact List.getElem_mem _)
  refine rg ?_;conv=>whnf
  refine⟨by omega,by show _<n.ports.length;omega,?_⟩
  conv=>whnf
  refine⟨hne,?_⟩
  conv=>whnf
  refine⟨E,by omega,?_⟩
  rw[hp]
  conv=>whnf
  refine Aq (Kw p.tagged hpl) F170 E E E qq E ?_
  refine rd qq ?_;conv=>whnf
  refine⟨by omega,by show _<n.ports.length;omega,?_⟩
  conv=>whnf
  refine⟨hne,?_⟩
  conv=>whnf
  refine⟨E,by omega,p,(by rw[hp];rfl),(by rw[hp];rfl),?_⟩
  conv=>whnf
  refine⟨qq,?_⟩
  conv=>whnf
  refine⟨by unfold I64;omega,?_⟩
  conv=>whnf
  exact Ar [] hlt ⟨⟨E,E,E,E,E,E,E,E,Y⟩,⟨.inl E,E,.inl E,E,.inl (congrArg (Ob.row 7 A5) hset.symm),E,.inl E,E,.inl E,E,.inl E,E,Y⟩,E,E⟩
 ·refine rg ?_;conv=>whnf
  refine Aw n.domains.length (fun j=>[(2,.ptr 2 0),(3,.ptr 3 0),(55,Aa n.domains.length),(56,Aa j)]) (fun _=>[(2,.box [.val (.slice none 0 0),.val (.slice none 0 0),.val (.slice none 0 0),.val (.slice none 0 0),.val (.slice none 0 0),.val (.slice none 0 0),.val (.slice none 0 0),.val (.slice none 0 0)]),(3,.box [.sl 5 Bm n.devices,.osl 14,.sl 3 Ch n.links,.osl 20,.sl 4 Bk n.statics,.osl 26,.osl 29,.sl 5 Cg n.irbs]),(14,.row 7 A5 n.ports),(20,.row 6 At n.domains),(26,.row 4 Bw n.floods),(29,.row 5 Cv n.vrfs)]) []
   ⟨⟨rfl,rfl,rfl,rfl,rfl,rfl,rfl,rfl,trivial⟩,⟨.inl rfl,rfl,.inl rfl,rfl,.inl rfl,rfl,.inl rfl,rfl,.inl rfl,rfl,.inl rfl,rfl,trivial⟩,rfl,rfl⟩ ?_
  intro j hj
  refine rg ?_;conv=>whnf
  refine⟨fun h=>?_,fun h=>?_⟩
  ·have hlt:j<n.domains.length:=by simpa using h
   obtain ⟨p,hp⟩:∃ p,n.domains[(j:Int).toNat]'qn=p:=⟨_,rfl⟩
   have hne:n.domains≠[]:=fun e=>by rw[e]at hlt;cases hlt
   have hset:n.domains.set (j:Int).toNat p=n.domains:=by rw[← hp];exact List.set_getElem_self _
   have hpl:=h2.2.1 p (by rw[← hp];exact List.getElem_mem _)
   refine rg ?_;conv=>whnf
   refine⟨by omega,by show _<n.domains.length;omega,?_⟩
   conv=>whnf
   refine⟨hne,?_⟩
   conv=>whnf
   refine⟨E,by omega,?_⟩
   rw[hp]
   conv=>whnf
   refine Aq (Kw p.peers hpl) F170 E E E qq E ?_
   refine rd qq ?_;conv=>whnf
   refine⟨by omega,by show _<n.domains.length;omega,?_⟩
   conv=>whnf
   refine⟨hne,?_⟩
   conv=>whnf
   refine⟨E,by omega,p,(by rw[hp];rfl),(by rw[hp];rfl),?_⟩
   conv=>whnf
   refine⟨qq,?_⟩
   conv=>whnf
   refine⟨by unfold I64;omega,?_⟩
   conv=>whnf
   exact Ar [] hlt ⟨⟨E,E,E,E,E,E,E,E,Y⟩,⟨.inl E,E,.inl E,E,.inl E,E,.inl (congrArg (Ob.row 6 At) hset.symm),E,.inl E,E,.inl E,E,Y⟩,E,E⟩
  ·refine rg ?_;conv=>whnf
   refine Aw n.floods.length (fun j=>[(2,.ptr 2 0),(3,.ptr 3 0),(74,Aa n.floods.length),(75,Aa j)]) (fun _=>[(2,.box [.val (.slice none 0 0),.val (.slice none 0 0),.val (.slice none 0 0),.val (.slice none 0 0),.val (.slice none 0 0),.val (.slice none 0 0),.val (.slice none 0 0),.val (.slice none 0 0)]),(3,.box [.sl 5 Bm n.devices,.osl 14,.sl 3 Ch n.links,.osl 20,.sl 4 Bk n.statics,.osl 26,.osl 29,.sl 5 Cg n.irbs]),(14,.row 7 A5 n.ports),(20,.row 6 At n.domains),(26,.row 4 Bw n.floods),(29,.row 5 Cv n.vrfs)]) []
    ⟨⟨rfl,rfl,rfl,rfl,rfl,rfl,rfl,rfl,trivial⟩,⟨.inl rfl,rfl,.inl rfl,rfl,.inl rfl,rfl,.inl rfl,rfl,.inl rfl,rfl,.inl rfl,rfl,trivial⟩,rfl,rfl⟩ ?_
   intro j hj
   refine rg ?_;conv=>whnf
   refine⟨fun h=>?_,fun h=>?_⟩
   ·have hlt:j<n.floods.length:=by simpa using h
    obtain ⟨p,hp⟩:∃ p,n.floods[(j:Int).toNat]'qn=p:=⟨_,rfl⟩
    have hne:n.floods≠[]:=fun e=>by rw[e]at hlt;cases hlt
    have hset:n.floods.set (j:Int).toNat p=n.floods:=by rw[← hp];exact List.set_getElem_self _
    have hpl:=h2.2.2.1 p (by rw[← hp];exact List.getElem_mem _)
    refine rg ?_;conv=>whnf
    refine⟨by omega,by show _<n.floods.length;omega,?_⟩
    conv=>whnf
    refine⟨hne,?_⟩
    conv=>whnf
    refine⟨E,by omega,?_⟩
    rw[hp]
    conv=>whnf
    refine Aq (Akk p.addrs hpl) F171 E E E qq E ?_
    refine rd qq ?_;conv=>whnf
    refine⟨by omega,by show _<n.floods.length;omega,?_⟩
    conv=>whnf
    refine⟨hne,?_⟩
    conv=>whnf
    refine⟨E,by omega,p,(by rw[hp];rfl),(by rw[hp];rfl),?_⟩
    conv=>whnf
    refine⟨qq,?_⟩
    conv=>whnf
    refine⟨by unfold I64;omega,?_⟩
    conv=>whnf
    exact Ar [] hlt ⟨⟨E,E,E,E,E,E,E,E,Y⟩,⟨.inl E,E,.inl E,E,.inl E,E,.inl E,E,.inl (congrArg (Ob.row 4 Bw) hset.symm),E,.inl E,E,Y⟩,E,E⟩
   ·refine rg ?_;conv=>whnf
    refine Aw n.vrfs.length (fun j=>[(2,.ptr 2 0),(3,.ptr 3 0),(93,Aa n.vrfs.length),(94,Aa j)]) (fun _=>[(2,.box [.val (.slice none 0 0),.val (.slice none 0 0),.val (.slice none 0 0),.val (.slice none 0 0),.val (.slice none 0 0),.val (.slice none 0 0),.val (.slice none 0 0),.val (.slice none 0 0)]),(3,.box [.sl 5 Bm n.devices,.osl 14,.sl 3 Ch n.links,.osl 20,.sl 4 Bk n.statics,.osl 26,.osl 29,.sl 5 Cg n.irbs]),(14,.row 7 A5 n.ports),(20,.row 6 At n.domains),(26,.row 4 Bw n.floods),(29,.row 5 Cv n.vrfs)]) []
     ⟨⟨rfl,rfl,rfl,rfl,rfl,rfl,rfl,rfl,trivial⟩,⟨.inl rfl,rfl,.inl rfl,rfl,.inl rfl,rfl,.inl rfl,rfl,.inl rfl,rfl,.inl rfl,rfl,trivial⟩,rfl,rfl⟩ ?_
    intro j hj
    refine rg ?_;conv=>whnf
    refine⟨fun h=>?_,fun h=>?_⟩
    ·have hlt:j<n.vrfs.length:=by simpa using h
     obtain ⟨p,hp⟩:∃ p,n.vrfs[(j:Int).toNat]'qn=p:=⟨_,rfl⟩
     have hne:n.vrfs≠[]:=fun e=>by rw[e]at hlt;cases hlt
     have hset:n.vrfs.set (j:Int).toNat p=n.vrfs:=by rw[← hp];exact List.set_getElem_self _
     have hpl:=h2.2.2.2 p (by rw[← hp];exact List.getElem_mem _)
     refine rg ?_;conv=>whnf
     have hne2:n.vrfs.set (j:Int).toNat p≠[]:=by rw[hset];exact hne
     have hp2:(n.vrfs.set (j:Int).toNat p)[(j:Int).toNat]'(by rw[hset];omega)=p:=by simp
     have hset2:(n.vrfs.set (j:Int).toNat p).set (j:Int).toNat p=n.vrfs:=by rw[hset,hset]
     refine⟨by omega,by show _<n.vrfs.length;omega,?_⟩
     conv=>whnf
     refine Bn (Di E (.inr (.inr (.inr ⟨29,5,_,0,E,fun κ w h=>Oa hne h,E⟩)))) qq E ?_
     refine rd qq ?_;conv=>whnf
     refine⟨hne,?_⟩
     conv=>whnf
     refine⟨E,by omega,?_⟩
     rw[hp]
     conv=>whnf
     refine Aq (Kw p.imports hpl.1) F170 E E E qq E ?_
     refine rd qq ?_;conv=>whnf
     refine Bn (Di E (.inr (.inr (.inr ⟨29,5,_,0,E,fun κ w h=>Oa hne h,E⟩)))) qq E ?_
     refine rd qq ?_;conv=>whnf
     refine⟨hne,?_⟩
     conv=>whnf
     refine⟨E,by omega,?_⟩
     rw[hp]
     conv=>whnf
     refine Aq (Kw p.exports hpl.2) F170 E E E qq E ?_
     refine rd qq ?_;conv=>whnf
     refine Bn (Di E (.inr (.inr (.inr ⟨29,5,_,0,E,fun κ w h=>Oa hne h,E⟩)))) qq E ?_
     refine rd qq ?_;conv=>whnf
     refine⟨hne,?_⟩
     conv=>whnf
     refine⟨E,by omega,p,(by rw[hp];rfl),(by rw[hp];rfl),?_⟩
     conv=>whnf
     refine Bn (Di E (.inr (.inr (.inr ⟨29,5,_,0,E,fun κ w h=>Oa hne2 h,E⟩)))) qq E ?_
     refine rd qq ?_;conv=>whnf
     refine⟨hne2,?_⟩
     conv=>whnf
     refine⟨E,by rw[hset];omega,p,(by rw[hp2];rfl),(by rw[hp2];rfl),?_⟩
     conv=>whnf
     refine⟨qq,?_⟩
     conv=>whnf
     refine⟨by unfold I64;omega,?_⟩
     conv=>whnf
     exact Ar [] hlt ⟨⟨E,E,E,E,E,E,E,E,Y⟩,⟨.inl E,E,.inl E,E,.inl E,E,.inl E,E,.inl E,E,.inl (congrArg (Ob.row 5 Cv) hset2.symm),E,Y⟩,E,E⟩
    ·refine rg ?_;conv=>whnf
     refine Au 14 E ?_
     refine Au 20 E ?_
     refine Au 26 E ?_
     refine Au 29 E ?_
     exact Ac E (.cons (.cell E E E E) .nil) E E
theorem Lr (l:List UInt8) (hl:l.length<2147483648):Sy.Spec Tryz.prog 290 [.sl 1 Ao l] [] (.sl 1 Ao l) []:=Ab Γ hm 100 F290 Tryz.ntmps290 rfl fun F hF=>by
 conv=>whnf
 refine Eg E (.inl E) E E E .sl E E ?_
 intro b hb
 cases b
 ·(refine rg ?_;(conv=>whnf);refine aF ?_;refine rg ?_;conv=>whnf)
  refine Ai (Am Γ.toTy 7 E E E E E (.lit (e:=Ao) (l:=[]) E E) .sl qy (by simp;omega) (by simp;omega)) E E ?_
  refine Au 7 E ?_
  refine rg ?_;conv=>whnf
  exact Ac E (.cons .tmp .nil) E E
 ·have h0:l=[]:=List.eq_nil_of_length_eq_zero (hb rfl)
  subst h0
  (refine rg ?_;(conv=>whnf);refine aT ?_;refine rg ?_;conv=>whnf)
  refine Ap 2 1 Ao E ?_
  exact Ac E (.cons .tmp .nil) E E
theorem cut6 (b:List UInt8) (k j:Nat) (hj:j<6) (h:k+6≤b.length):Iv (((b.drop k).take 6).take (j+1))=Iv (((b.drop k).take 6).take j) * 256+(b[k+j]'qn).toNat:=by
 rw[Ail _ (by rw[List.length_take,List.length_drop];omega)]
 congr 2
 rw[List.getElem_take,List.getElem_drop]
theorem Ado (b:List UInt8) (k:Nat) (h:k+6≤b.length) (hb:b.length<100000):Sy.Spec Tryz.prog 181 [.sl 1 Ao b,Aa k] [] (.tup [Bf (Iv ((b.drop k).take 6)),Ad true]) []:=Ab Γ hm 100 F181 Tryz.ntmps181 rfl fun F hF=>by
 ((conv=>whnf);refine aF ?_;refine rg ?_;conv=>whnf)
 refine⟨by unfold I64;omega,?_⟩
 conv=>whnf
 (refine⟨fun h=>False.elim (by simp at h;omega),fun _=>?_⟩;refine rg ?_;conv=>whnf)
 refine Aw 6 (fun j=>[(0,.sl 1 Ao b),(1,Aa k),(6,Bf (Iv (((b.drop k).take 6).take j))),(17,Aa j)]) (fun _=>[]) [] ⟨⟨E,E,E,E,E,E,E,E,Y⟩,Y,E,E⟩ ?_
 intro j hj
 have hlt2:=K4 _ (((b.drop k).take 6).take j) rfl
 refine rg ?_;conv=>whnf
 refine⟨fun h2=>?_,fun h2=>?_⟩
 ·have hj6:j<6:=by have:=of_decide_eq_true h2;omega
  have hs:=cut6 b k j hj6 h
  have hll:(((b.drop k).take 6).take j).length=j:=by rw[List.length_take,List.length_take,List.length_drop];omega
  rw[hll]at hlt2
  have h5:Iv (((b.drop k).take 6).take j)<1099511627776:=Nat.lt_of_lt_of_le hlt2 (by
   have:(256:Nat) ^ j≤256 ^ 5:=Nat.pow_le_pow_right qx qn
   exact this)
  have hi0:((k:Int)+(j:Int)).toNat<b.length:=by omega
  obtain ⟨c,hc⟩:∃ c,b[((k:Int)+(j:Int)).toNat]'hi0=c:=⟨_,rfl⟩
  have hc':b[k+j]'qn=c:=by rw[← hc];congr 1
  rw[hc']at hs
  have hcat:=An6 _ c h5
  refine rg ?_;conv=>whnf
  refine⟨by decide,?_⟩
  conv=>whnf
  refine⟨by unfold I64;omega,?_⟩
  conv=>whnf
  refine⟨E,by omega,hi0,?_⟩
  rw[hc]
  conv=>whnf
  refine⟨by unfold I64;omega,?_⟩
  conv=>whnf
  exact Ar [] hj6 ⟨⟨E,E,E,E,congrArg (fun z:Int=>SV.val (.int .u64 z)) (hcat.trans (congrArg Int.ofNat hs.symm)).symm,E,E,E,Y⟩,Y,E,E⟩
 ·have hj6:j=6:=by have:=of_decide_eq_false h2;omega
  subst hj6
  rw[List.take_take,Nat.min_self]
  refine rg ?_;conv=>whnf
  exact Ac E (.cons .tmp (.cons .tmp .nil)) E E
theorem Ahi (a b:UInt8):Iv [a,b]=a.toNat * 256+b.toNat:=by simp[Iv]
theorem Sc {b:List UInt8} {k:Nat} (h:k+2≤b.length):(b.drop k).take 2=[b[k]'qn,b[k+1]'qn]:=by
 rw[List.drop_eq_getElem_cons (by omega:k<b.length),List.drop_eq_getElem_cons (by omega:k+1<b.length)];rfl
theorem Lo (b:List UInt8) (hb:b.length<100000):Sy.Spec Tryz.prog 121 [.sl 1 Ao b] [] (.tup [B9 (takeF b).1,Aa (takeF b).2]) []:=Ab Γ hm 100 F121 Tryz.ntmps121 rfl fun F hF=>by
 have hres:=takeF.eq_1 b
 generalize takeF b=res at *
 conv=>whnf
 refine⟨fun h=>?_,fun h=>?_⟩
 ·rw[if_pos (by have:=of_decide_eq_true h;omega)]at hres
  subst hres
  refine rg ?_;conv=>whnf
  refine Bc 2 [Bf 0,Bf 0,Aa 0,.sl 1 Ao []] E (.cons (.refl _) (.cons (.refl _) (.cons (.refl _) (.cons .nil .nil)))) ?_
  exact Ac E (.cons (.cell E E E E) (.cons .tmp .nil)) E E
 rw[if_neg (by have:=of_decide_eq_false h;omega)]at hres
 have h14:14≤b.length:=by have:=of_decide_eq_false h;omega
 refine rg ?_;conv=>whnf
 refine⟨fun h=>?_,fun h=>?_⟩
 ·rw[if_pos (by have:=of_decide_eq_true h;omega)]at hres
  subst hres
  refine rg ?_;conv=>whnf
  refine Bc 2 [Bf 0,Bf 0,Aa 0,.sl 1 Ao []] E (.cons (.refl _) (.cons (.refl _) (.cons (.refl _) (.cons .nil .nil)))) ?_
  exact Ac E (.cons (.cell E E E E) (.cons .tmp .nil)) E E
 rw[if_neg (by have:=of_decide_eq_false h;omega)]at hres
 have q1:=Ado b 0 qn hb
 have q2:=Ado b 6 qn hb
 rw[Sc qn,Ahi]at hres
 have hp:=Er (b[12]'qn) (b[13]'qn)
 have hdl:(b.drop 14).length=b.length-14:=List.length_drop
 have hn:((b.length:Int)-14)=((b.length-14:Nat):Int):=by omega
 have hcp:(b.drop 14).take (List.replicate (b.length-14) (0:UInt8)).length++(List.replicate (b.length-14) (0:UInt8)).drop (b.drop 14).length=b.drop 14:=by
  have e1:(List.replicate (b.length-14) (0:UInt8)).drop (b.length-14)=[]:=List.drop_eq_nil_of_le qy
  rw[List.length_replicate,hdl,e1,List.append_nil]
  exact List.take_of_length_le qn
 have etk:(b.take b.length).drop 14=b.drop 14:=by rw[List.take_length]
 have i12:(12:Int).toNat<b.length:=by show 12<_;omega
 have i13:(13:Int).toNat<b.length:=by show 13<_;omega
 refine rg ?_;conv=>whnf
 refine Ag q1 F181 E E E E E ?_
 refine rg ?_;conv=>whnf
 refine Ag q2 F181 E E E E E ?_
 refine rg ?_;conv=>whnf
 refine⟨by unfold I64;omega,?_⟩
 conv=>whnf
 refine Ai (Br Γ.toTy (d:=32) (n:=b.length-14) Ao 0 E E E E E E (congrArg (fun z=>SV.val (.int .i64 z)) hn) (congrArg (fun z=>SV.val (.int .i64 z)) hn) qn qn E E E) E E ?_
 refine rg ?_;conv=>whnf
 refine Ai (Cm (lo:=14) (hi:=b.length) Γ.toTy E E E E (.inr ⟨_,_,E,E⟩) (.inl ⟨E,E⟩) qn (Nat.le_refl _)) E E ?_
 rw[etk]
 refine rg ?_;conv=>whnf
 refine Ai (Un Γ.toTy E E E E E .sl) E E ?_
 rw[hcp]
 refine Au 32 E ?_
 refine rg ?_;conv=>whnf
 refine⟨E,by decide,i12,?_⟩
 conv=>whnf
 refine⟨by decide,?_⟩
 conv=>whnf
 refine⟨E,by decide,i13,?_⟩
 conv=>whnf
 refine⟨qq,?_⟩
 conv=>whnf
 refine Ac E (.cons (.cell E E E E) (.cons .tmp .nil)) ?_ E
 rw[hres]
 show SV.tup [.agg [_,_,Aa ((b[12].toNat * 256+b[13].toNat:Nat):Int),_],_]=_
 rw[← hp]
 rfl
theorem Kn (m:Nat) (h:m<18446744073709551616):Sy.Spec Tryz.prog 226 [Bf m] [] (Ad (H7 m)) []:=Ab Γ hm 100 F226 Tryz.ntmps226 rfl fun F hF=>by
 have e:=Aj8 m h
 conv=>whnf
 refine Ac E (.cons .tmp .nil) ?_ E
 exact congrArg Ad e.symm
theorem M9 (f:FrameM):Sy.Spec Tryz.prog 182 [B9 f] [] (Ad (decide (f.typ=33024))) []:=Ab Γ hm 100 F182 Tryz.ntmps182 rfl fun F hF=>by
 conv=>whnf
 refine Ac E (.cons .tmp .nil) ?_ E
 refine congrArg Ad ?_
 rw[Bool.eq_iff_iff];simp;omega
theorem Lp (p:Port) (tg:Bool) (vid:Int) (hl:An p.tagged):Sy.Spec Tryz.prog 227 [A5 p,Ad tg,Aa vid] [] (.tup [Aa (vlanT p tg vid).1,Ad (vlanT p tg vid).2]) []:=Ab Γ hm 100 F227 Tryz.ntmps227 rfl fun F hF=>by
 have hres:=vlanT.eq_1 p tg vid
 generalize vlanT p tg vid=res at *
 have q:=C2 p.tagged vid hl
 have hz:decide (p.native≠0)=(p.native != 0):=by rw[Bool.eq_iff_iff];simp
 rw[hz]at hres
 cases tg
 ·rw[if_pos (.inl rfl)]at hres
  subst hres
  ((conv=>whnf);refine aT ?_;refine rg ?_;conv=>whnf)
  refine⟨qq,?_⟩
  conv=>whnf
  exact Ac E (.cons .tmp (.cons .tmp .nil)) E E
 ((conv=>whnf);refine aF ?_;refine rg ?_;conv=>whnf)
 refine⟨fun h=>?_,fun h=>?_⟩
 ·rw[if_pos (.inr (by simpa using h))]at hres
  subst hres
  refine rg ?_;conv=>whnf
  refine⟨qq,?_⟩
  conv=>whnf
  exact Ac E (.cons .tmp (.cons .tmp .nil)) E E
 rw[if_neg (by simpa using h)]at hres
 refine rg ?_;conv=>whnf
 refine Ag q F25 E E E E E ?_
 cases hi:inB p.tagged vid
 ·rw[if_neg (by simp[hi])]at hres
  subst hres
  (refine rg ?_;(conv=>whnf);refine aF ?_;refine rg ?_;conv=>whnf)
  exact Ac E (.cons .tmp (.cons .tmp .nil)) E E
 ·rw[if_pos hi]at hres
  subst hres
  (refine rg ?_;(conv=>whnf);refine aT ?_;refine rg ?_;conv=>whnf)
  exact Ac E (.cons .tmp (.cons .tmp .nil)) E E
theorem Ano (n:Nat) (h:n<9223372036854775808):bits .and .i64 (n:Int) 4095=((n % 4096:Nat):Int):=by
 have:=Ia n 4095 h qx
 rw[show ((4095:Nat):Int)=4095 from rfl]at this
 rw[this]
 have h2:=Nat.and_two_pow_sub_one_eq_mod n 12
 rw[show 2 ^ 12-1=4095 from rfl,show 2 ^ 12=4096 from rfl]at h2
 rw[h2]
theorem Anl {b:List UInt8} (h:4≤b.length):b.take 2=[b[0]'qn,b[1]'qn]∧(b.drop 2).take 2=[b[2]'qn,b[3]'qn]:=by
 have h1:=Sc (b:=b) (k:=0) qn
 have h2:=Sc (b:=b) (k:=2) qn
 exact⟨h1,h2⟩
abbrev zF:List SV:=[Bf 0,Bf 0,Aa 0,.sl 1 Ao []]
theorem Aio (f:FrameM) (hb:f.body.length<100000):Sy.Spec Tryz.prog 225 [B9 f] [] (.tup [B9 (stripT f).1,Aa (stripT f).2.1,Aa (stripT f).2.2.1,Aa (stripT f).2.2.2]) []:=Ab Γ hm 100 F225 Tryz.ntmps225 rfl fun F hF=>by
 have hres:=stripT.eq_1 f
 generalize stripT f=res at *
 have q0:=M9 f
 obtain ⟨d,s,t,b⟩:=f
 dsimp only at hres hb q0
 conv=>whnf
 refine Ag q0 F182 E E E E E ?_
 by_cases ht:t=33024
 rotate_left
 ·rw[if_pos ht]at hres
  subst hres
  rw[decide_eq_false ht]
  (refine rg ?_;(conv=>whnf);refine aT ?_;refine rg ?_;conv=>whnf)
  refine Bc 2 zF E (.cons (.refl _) (.cons (.refl _) (.cons (.refl _) (.cons .nil .nil)))) ?_
  exact Ac E (.cons (.cell E E E E) (.cons .tmp (.cons .tmp (.cons .tmp .nil)))) E E
 rw[if_neg (by simpa using ht)]at hres
 rw[decide_eq_true ht]
 (refine rg ?_;(conv=>whnf);refine aF ?_;refine rg ?_;conv=>whnf)
 refine⟨fun h=>?_,fun h=>?_⟩
 ·rw[if_pos (by have:=of_decide_eq_true h;dsimp only at this;omega)]at hres
  subst hres
  refine rg ?_;conv=>whnf
  refine Bc 2 zF E (.cons (.refl _) (.cons (.refl _) (.cons (.refl _) (.cons .nil .nil)))) ?_
  exact Ac E (.cons (.cell E E E E) (.cons .tmp (.cons .tmp (.cons .tmp .nil)))) E E
 have h4:4≤b.length:=by have:=of_decide_eq_false h;dsimp only at this;omega
 rw[if_neg qn,(Anl h4).1,(Anl h4).2,Ahi,Ahi]at hres
 have c1:=Lr (b.drop 4) (by rw[List.length_drop];omega)
 have etk:(b.take b.length).drop 4=b.drop 4:=by rw[List.take_length]
 rw[← etk]at c1
 have i0:(0:Int).toNat<b.length:=by show 0<_;omega
 have i1:(1:Int).toNat<b.length:=by show 1<_;omega
 have i2:(2:Int).toNat<b.length:=by show 2<_;omega
 have i3:(3:Int).toNat<b.length:=by show 3<_;omega
 have e0:b[(0:Int).toNat]'i0=b[0]'qn:=rfl
 have e1:b[(1:Int).toNat]'i1=b[1]'qn:=rfl
 have e2:b[(2:Int).toNat]'i2=b[2]'qn:=rfl
 have e3:b[(3:Int).toNat]'i3=b[3]'qn:=rfl
 have hp1:=Er (b[0]'qn) (b[1]'qn)
 have hp2:=Er (b[2]'qn) (b[3]'qn)
 have l0:=(b[0]'qn).toNat_lt
 have l1:=(b[1]'qn).toNat_lt
 obtain ⟨P,hP⟩:∃ P,(b[0]'qn).toNat * 256+(b[1]'qn).toNat=P:=⟨_,rfl⟩
 obtain ⟨Q,hQ⟩:∃ Q,(b[2]'qn).toNat * 256+(b[3]'qn).toNat=Q:=⟨_,rfl⟩
 have hPl:P<65536:=by omega
 rw[hP]at hp1 hres
 rw[hQ]at hp2 hres
 have ha:=Ano P qn
 have hs:(P:Int).fdiv (2 ^ (min (Int.toNat 12) IntKind.i64.bits))=((P / 4096:Nat):Int):=Ahm P 12 qx
 refine rg ?_;conv=>whnf
 refine⟨E,by decide,i0,?_⟩
 rw[e0]
 conv=>whnf
 refine⟨by decide,?_⟩
 conv=>whnf
 refine⟨E,by decide,i1,?_⟩
 rw[e1]
 conv=>whnf
 refine⟨qq,?_⟩
 rw[hp1]
 conv=>whnf
 refine⟨E,by decide,i2,?_⟩
 rw[e2]
 conv=>whnf
 refine⟨by decide,?_⟩
 conv=>whnf
 refine⟨E,by decide,i3,?_⟩
 rw[e3]
 conv=>whnf
 refine⟨qq,?_⟩
 rw[hp2]
 conv=>whnf
 refine⟨by decide,?_⟩
 rw[ha,hs]
 conv=>whnf
 refine⟨fun h=>?_,fun h=>?_⟩
 ·rw[if_pos (.inl (by have:=of_decide_eq_true h;omega))]at hres
  subst hres
  refine rg ?_;conv=>whnf
  refine Bc 2 zF E (.cons (.refl _) (.cons (.refl _) (.cons (.refl _) (.cons .nil .nil)))) ?_
  exact Ac E (.cons (.cell E E E E) (.cons .tmp (.cons .tmp (.cons .tmp .nil)))) E E
 have h5:¬ 4094<P % 4096:=by have:=of_decide_eq_false h;omega
 refine rg ?_;conv=>whnf
 refine⟨fun h=>?_,fun h=>?_⟩
 ·rw[if_pos (.inr (by have:(Q:Int)=33024:=(by simpa using h);omega))]at hres
  subst hres
  refine rg ?_;conv=>whnf
  refine Bc 2 zF E (.cons (.refl _) (.cons (.refl _) (.cons (.refl _) (.cons .nil .nil)))) ?_
  exact Ac E (.cons (.cell E E E E) (.cons .tmp (.cons .tmp (.cons .tmp .nil)))) E E
 have h6:¬ Q=33024:=fun e=>by rw[e]at h;simp at h
 rw[if_neg qn]at hres
 subst hres
 refine rg ?_;conv=>whnf
 refine Bn (Cm (lo:=4) (hi:=b.length) Γ.toTy E E E E (.inr ⟨_,_,E,E⟩) (.inl ⟨E,E⟩) h4 (Nat.le_refl _)) qq E ?_
 refine rd qq ?_;conv=>whnf
 refine Aq c1 F290 E E E qq E ?_
 refine rd qq ?_;conv=>whnf
 refine⟨qq,?_⟩
 conv=>whnf
 refine Ac E (.cons (.cell E E E E) (.cons .tmp (.cons .tmp (.cons .tmp .nil)))) ?_ E
 show SV.tup [.agg [_,_,_,.sl 1 Ao (b.drop 4)],_,_,_]=SV.tup [.agg [_,_,_,.sl 1 Ao ((b.take b.length).drop 4)],_,_,_]
 rw[etk]
 rfl
theorem I3 (f:FrameM) (h:FrameOK f):Sy.Spec Tryz.prog 45 [B9 f] [] (.tup [.osl 0,Aa 0]) [(0,.row 1 Ao (Qp f))]:=Aed f.dst f.src f.typ f.body h.dst h.src h.typ h.body
theorem Ach (f:FrameM) (v:Nat) (h:FrameOK f) (hv:v≤4094):Sy.Spec Tryz.prog 122 [B9 f,Aa v,Aa 0] [] (.tup [B9 (tagT f v).1,Aa (tagT f v).2]) []:=by
 have hres:=tagT.eq_1 f v
 have q0:=M9 f
 obtain ⟨d,s,t,b⟩:=f
 have h1:=h.typ
 have h2:=h.body
 dsimp only at hres q0 h1 h2
 by_cases ht:t=33024
 ·rw[if_pos ht]at hres
  rw[hres]
  rw[decide_eq_true ht]at q0
  refine Ab Γ hm 100 F122 Tryz.ntmps122 E fun F hF=>by
   conv=>whnf
   refine Ag q0 F182 E E E E E ?_
   (refine rg ?_;(conv=>whnf);refine aT ?_;refine rg ?_;(conv=>whnf);refine aT ?_;refine rg ?_;(conv=>whnf);refine aT ?_;refine rg ?_;(conv=>whnf);refine aT ?_;refine rg ?_;(conv=>whnf);refine aT ?_;refine rg ?_;conv=>whnf)
   refine Bc 6 zF E (.cons (.refl _) (.cons (.refl _) (.cons (.refl _) (.cons .nil .nil)))) ?_
   exact Ac E (.cons (.cell E E E E) (.cons .tmp .nil)) E E
 rw[if_neg ht]at hres
 by_cases hb:1500<b.length
 ·rw[if_pos hb]at hres
  rw[hres]
  rw[decide_eq_false ht]at q0
  refine Ab Γ hm 100 F122 Tryz.ntmps122 E fun F hF=>by
   conv=>whnf
   refine Ag q0 F182 E E E E E ?_
   (refine rg ?_;(conv=>whnf);refine aF ?_;refine rg ?_;(conv=>whnf);refine aF ?_;refine rg ?_;conv=>whnf)
   (refine⟨fun h=>False.elim (by simp at h;omega),fun _=>?_⟩;refine rg ?_;(conv=>whnf);refine aF ?_;refine rg ?_;(conv=>whnf);refine aF ?_;refine rg ?_;(conv=>whnf);refine aF ?_;refine rg ?_;(conv=>whnf);refine⟨fun h=>False.elim (by simp at h;omega),fun _=>?_⟩;refine rg ?_;(conv=>whnf);refine⟨fun _=>?_,fun h=>False.elim (by simp at h;omega)⟩;refine rg ?_;conv=>whnf)
   refine Bc 6 zF E (.cons (.refl _) (.cons (.refl _) (.cons (.refl _) (.cons .nil .nil)))) ?_
   exact Ac E (.cons (.cell E E E E) (.cons .tmp .nil)) E E
 rw[if_neg hb]at hres
 rw[hres]
 exact An9 d s t v b ht h1 hv qn
theorem Ain {b:List UInt8} (h:(takeF b).2≠0):(takeF b).1=noF:=by
 unfold takeF at h ⊢
 split
 ·rfl
 rw[if_neg (by assumption)]at h
 split
 ·rfl
 rw[if_neg (by assumption)]at h
 exact absurd E h
theorem Wn {b:List UInt8} (h:(takeF b).2=0):FrameOK (takeF b).1:=by
 unfold takeF at h ⊢
 split
 ·rw[if_pos (by assumption)]at h;cases h
 rw[if_neg (by assumption)]at h
 split
 ·rw[if_pos (by assumption)]at h;cases h
 rename_i h1 h2
 have l1:((b.take 6).length)=6:=by rw[List.length_take];omega
 have l2:(((b.drop 6).take 6).length)=6:=by rw[List.length_take,List.length_drop];omega
 have l3:(((b.drop 12).take 2).length)=2:=by rw[List.length_take,List.length_drop];omega
 have a1:=K4 _ _ l1
 have a2:=K4 _ _ l2
 have a3:=K4 _ _ l3
 refine⟨a1,a2,?_,?_⟩
 ·dsimp only;exact Nat.le_of_lt_succ a3
 ·dsimp only;rw[List.length_drop];omega
theorem Alh {f:FrameM} (hf:FrameOK f) (h:(stripT f).2.2.2=0):FrameOK (stripT f).1:=by
 unfold stripT at h ⊢
 split
 ·rw[if_pos (by assumption)]at h;cases h
 rw[if_neg (by assumption)]at h
 split
 ·rw[if_pos (by assumption)]at h;cases h
 rw[if_neg (by assumption)]at h
 split
 ·rw[if_pos (by assumption)]at h;cases h
 rename_i h1 h2 h3
 have l3:(((f.body.drop 2).take 2).length)=2:=by rw[List.length_take,List.length_drop];omega
 have a3:=K4 _ _ l3
 have hb:=hf.body
 refine⟨hf.dst,hf.src,?_,?_⟩
 ·dsimp only;exact Nat.le_of_lt_succ a3
 ·dsimp only;rw[List.length_drop];omega
theorem strip_bad {f:FrameM} (h:(stripT f).2.2.2≠0):(stripT f).1=noF∧(stripT f).2.1=0:=by
 unfold stripT at h ⊢
 split
 ·exact⟨E,E⟩
 rw[if_neg (by assumption)]at h
 split
 ·exact⟨E,E⟩
 rw[if_neg (by assumption)]at h
 split
 ·exact⟨E,E⟩
 rw[if_neg (by assumption)]at h
 exact absurd E h
theorem Aee (n:Net) (hn:n.Fin) (port:Int) (b:List UInt8) (hb:b.length<100000) :
  Sy.Spec Tryz.prog 172 [Al n,Aa port,.sl 1 Ao b] [] (.tup [Aa (enterT n port b).1,B9 (enterT n port b).2.1,Aa (enterT n port b).2.2]) []:=Ab Γ hm 100 F172 Tryz.ntmps172 rfl fun F hF=>by
 have hres:=enterT.eq_1 n port b
 generalize enterT n port b=res at *
 have hr:=Be n hn
 conv=>whnf
 by_cases hneg:port<0
 ·rw[if_pos (.inl (by rw[Aj,decide_eq_false qn];rfl))]at hres
  subst hres
  (refine⟨fun _=>?_,fun h=>False.elim (by simp at h;omega)⟩;refine rg ?_;(conv=>whnf);refine aT ?_;refine rg ?_;(conv=>whnf);refine aT ?_;refine rg ?_;conv=>whnf)
  refine Bc 7 zF E (.cons (.refl _) (.cons (.refl _) (.cons (.refl _) (.cons .nil .nil)))) ?_
  exact Ac E (.cons .tmp (.cons (.cell E E E E) (.cons .tmp .nil))) E E
 refine⟨fun h=>absurd (of_decide_eq_true h) hneg,fun _=>?_⟩
 refine A3 3 8 (Al n) E E E ?_
 by_cases hge:(n.ports.length:Int)≤port
 ·rw[if_pos (.inl (by rw[Aj,decide_eq_false (by omega:¬ port<_),Bool.and_false]))]at hres
  subst hres
  refine rg ?_;conv=>whnf
  (refine⟨fun _=>?_,fun h=>False.elim (by simp at h;omega)⟩;refine rg ?_;(conv=>whnf);refine aT ?_;refine rg ?_;conv=>whnf)
  refine Bc 7 zF E (.cons (.refl _) (.cons (.refl _) (.cons (.refl _) (.cons .nil .nil)))) ?_
  exact Ac E (.cons .tmp (.cons (.cell E E E E) (.cons .tmp .nil))) E E
 have hpl:Aj port n.ports.length=true:=by rw[Aj,decide_eq_true qn,decide_eq_true qn];rfl
 refine rg ?_;conv=>whnf
 (refine⟨fun h=>False.elim (by simp at h;omega),fun _=>?_⟩;refine rg ?_;conv=>whnf)
 refine Ag hr F23 E E E E E ?_
 cases hbn:Ae n
 ·rw[if_pos (.inr hbn)]at hres
  subst hres
  (refine rg ?_;(conv=>whnf);refine aT ?_;refine rg ?_;conv=>whnf)
  refine Bc 7 zF E (.cons (.refl _) (.cons (.refl _) (.cons (.refl _) (.cons .nil .nil)))) ?_
  exact Ac E (.cons .tmp (.cons (.cell E E E E) (.cons .tmp .nil))) E E
 rw[if_neg (by simp[hbn,hpl])]at hres
 have hp0:0≤port:=by omega
 have hk:port.toNat<n.ports.length:=by omega
 have e1:nth n.ports port=n.ports[port.toNat]:=Ah hk
 have hsh:=hn.tagged _ (List.getElem_mem hk)
 obtain ⟨p,hp⟩:∃ p,n.ports[port.toNat]'hk=p:=⟨_,rfl⟩
 rw[hp]at e1 hsh
 have qt:=Lo b hb
 have hto:=@Wn b
 have htb:=@Ain b
 generalize takeF b=tf at *
 obtain ⟨f,e⟩:=tf
 dsimp only at hres qt hto htb
 have qi:=M9 f
 (refine rg ?_;(conv=>whnf);refine aF ?_;refine rg ?_;conv=>whnf)
 refine Ag qt F121 E E E E E ?_
 refine rg ?_;conv=>whnf
 refine Ag qi F182 E E E E E ?_
 by_cases he:e=0
 rotate_left
 ·rw[if_pos he]at hres
  subst hres
  obtain rfl:=htb he
  refine rg ?_;conv=>whnf
  (refine⟨fun h=>False.elim (by simp at h;omega),fun _=>?_⟩;refine rg ?_;(conv=>whnf);refine aF ?_;refine rg ?_;conv=>whnf)
  (refine⟨fun h=>False.elim (by simp at h;omega),fun _=>?_⟩;refine rg ?_;(conv=>whnf);refine aF ?_;refine rg ?_;conv=>whnf)
  refine⟨E,hp0,hk,?_⟩
  rw[hp]
  conv=>whnf
  refine Ag (Lp p false 0 hsh) F227 E E E E E ?_
  refine rg ?_;conv=>whnf
  (refine⟨fun h=>False.elim (by simp at h;omega),fun _=>?_⟩;refine rg ?_;(conv=>whnf);refine aF ?_;refine rg ?_;(conv=>whnf);refine⟨fun _=>?_,fun h=>False.elim (by simp at h;omega)⟩;refine rg ?_;conv=>whnf)
  refine Bc 7 zF E (.cons (.refl _) (.cons (.refl _) (.cons (.refl _) (.cons .nil .nil)))) ?_
  exact Ac E (.cons .tmp (.cons (.cell E E E E) (.cons .tmp .nil))) E E
 subst he
 rw[if_neg qx]at hres
 have hfo:=hto rfl
 by_cases ht:f.typ=33024
 ·rw[if_pos ht]at hres
  rw[decide_eq_true ht]
  have qs:=Aio f (by have:=hfo.body;omega)
  have hso:=@Alh f hfo
  have hsb:=@strip_bad f
  generalize stripT f=st at *
  obtain ⟨g,vid,prio,e2⟩:=st
  dsimp only at hres qs hso hsb
  (refine rg ?_;(conv=>whnf);refine aT ?_;refine rg ?_;(conv=>whnf);refine aT ?_;refine rg ?_;conv=>whnf)
  refine Ag qs F225 E E E E E ?_
  by_cases he2:e2=0
  rotate_left
  ·rw[if_pos he2]at hres
   subst hres
   obtain ⟨rfl,rfl⟩:=hsb he2
   refine rg ?_;conv=>whnf
   (refine⟨fun h=>False.elim (by simp at h;omega),fun _=>?_⟩;refine rg ?_;(conv=>whnf);refine aF ?_;refine rg ?_;conv=>whnf)
   refine⟨E,hp0,hk,?_⟩
   rw[hp]
   conv=>whnf
   refine Ag (Lp p true 0 hsh) F227 E E E E E ?_
   refine rg ?_;conv=>whnf
   (refine⟨fun h=>False.elim (by simp at h;omega),fun _=>?_⟩;refine rg ?_;(conv=>whnf);refine aF ?_;refine rg ?_;(conv=>whnf);refine⟨fun _=>?_,fun h=>False.elim (by simp at h;omega)⟩;refine rg ?_;conv=>whnf)
   refine Bc 7 zF E (.cons (.refl _) (.cons (.refl _) (.cons (.refl _) (.cons .nil .nil)))) ?_
   exact Ac E (.cons .tmp (.cons (.cell E E E E) (.cons .tmp .nil))) E E
  subst he2
  rw[if_neg qx]at hres
  have hgo:=hso rfl
  have hgs:=hgo.src
  have qg:=Kn g.src qn
  rw[Jn,e1]at hres
  have qv:=Lp p true vid hsh
  have qd:=I1 n hn p.dev (vlanT p true vid).1
  (refine rg ?_;(conv=>whnf);refine aT ?_;refine rg ?_;conv=>whnf)
  refine Ag qg F226 E E E E E ?_
  cases hgb:H7 g.src
  rotate_left
  ·rw[if_pos hgb]at hres
   subst hres
   (refine rg ?_;(conv=>whnf);refine aT ?_;refine rg ?_;conv=>whnf)
   refine⟨E,hp0,hk,?_⟩
   rw[hp]
   conv=>whnf
   refine Ag qv F227 E E E E E ?_
   (refine rg ?_;(conv=>whnf);refine aF ?_;refine rg ?_;(conv=>whnf);refine aF ?_;refine rg ?_;(conv=>whnf);refine aT ?_;refine rg ?_;conv=>whnf)
   (skip)
   refine Bc 7 zF E (.cons (.refl _) (.cons (.refl _) (.cons (.refl _) (.cons .nil .nil)))) ?_
   exact Ac E (.cons .tmp (.cons (.cell E E E E) (.cons .tmp .nil))) E E
  rw[if_neg (by simp[hgb])]at hres
  (refine rg ?_;(conv=>whnf);refine aF ?_;refine rg ?_;conv=>whnf)
  refine⟨E,hp0,hk,?_⟩
  rw[hp]
  conv=>whnf
  refine Ag qv F227 E E E E E ?_
  generalize vlanT p true vid=vl at *
  obtain ⟨vl,vok⟩:=vl
  dsimp only at hres qd ⊢
  cases vok
  ·rw[if_pos rfl]at hres
   subst hres
   (refine rg ?_;(conv=>whnf);refine aT ?_;refine rg ?_;(conv=>whnf);refine aT ?_;refine rg ?_;(conv=>whnf);refine aT ?_;refine rg ?_;conv=>whnf)
   refine Bc 7 zF E (.cons (.refl _) (.cons (.refl _) (.cons (.refl _) (.cons .nil .nil)))) ?_
   exact Ac E (.cons .tmp (.cons (.cell E E E E) (.cons .tmp .nil))) E E
  rw[if_neg qy]at hres
  subst hres
  (refine rg ?_;(conv=>whnf);refine aT ?_;refine rg ?_;(conv=>whnf);refine aF ?_;refine rg ?_;(conv=>whnf);refine aF ?_;refine rg ?_;conv=>whnf)
  refine Aq qd F89 E E E qq E ?_
  refine rd qq ?_;conv=>whnf
  refine⟨qq,?_⟩
  conv=>whnf
  exact Ac E (.cons .tmp (.cons (.cell E E E E) (.cons .tmp .nil))) E E
 ·rw[if_neg ht]at hres
  rw[decide_eq_false ht]
  have hgo:=hfo
  have hgs:=hgo.src
  have qg:=Kn f.src qn
  rw[Jn,e1]at hres
  have qv:=Lp p false 0 hsh
  have qd:=I1 n hn p.dev (vlanT p false 0).1
  (refine rg ?_;(conv=>whnf);refine aT ?_;refine rg ?_;(conv=>whnf);refine aF ?_;refine rg ?_;(conv=>whnf);refine aT ?_;refine rg ?_;conv=>whnf)
  refine Ag qg F226 E E E E E ?_
  cases hgb:H7 f.src
  rotate_left
  ·rw[if_pos hgb]at hres
   subst hres
   (refine rg ?_;(conv=>whnf);refine aT ?_;refine rg ?_;conv=>whnf)
   refine⟨E,hp0,hk,?_⟩
   rw[hp]
   conv=>whnf
   refine Ag qv F227 E E E E E ?_
   (refine rg ?_;(conv=>whnf);refine aF ?_;refine rg ?_;(conv=>whnf);refine aF ?_;refine rg ?_;(conv=>whnf);refine aT ?_;refine rg ?_;conv=>whnf)
   (skip)
   refine Bc 7 zF E (.cons (.refl _) (.cons (.refl _) (.cons (.refl _) (.cons .nil .nil)))) ?_
   exact Ac E (.cons .tmp (.cons (.cell E E E E) (.cons .tmp .nil))) E E
  rw[if_neg (by simp[hgb])]at hres
  (refine rg ?_;(conv=>whnf);refine aF ?_;refine rg ?_;conv=>whnf)
  refine⟨E,hp0,hk,?_⟩
  rw[hp]
  conv=>whnf
  refine Ag qv F227 E E E E E ?_
  generalize vlanT p false 0=vl at *
  obtain ⟨vl,vok⟩:=vl
  dsimp only at hres qd ⊢
  cases vok
  ·rw[if_pos rfl]at hres
   subst hres
   (refine rg ?_;(conv=>whnf);refine aT ?_;refine rg ?_;(conv=>whnf);refine aT ?_;refine rg ?_;(conv=>whnf);refine aT ?_;refine rg ?_;conv=>whnf)
   refine Bc 7 zF E (.cons (.refl _) (.cons (.refl _) (.cons (.refl _) (.cons .nil .nil)))) ?_
   exact Ac E (.cons .tmp (.cons (.cell E E E E) (.cons .tmp .nil))) E E
  rw[if_neg qy]at hres
  subst hres
  (refine rg ?_;(conv=>whnf);refine aT ?_;refine rg ?_;(conv=>whnf);refine aF ?_;refine rg ?_;(conv=>whnf);refine aF ?_;refine rg ?_;conv=>whnf)
  refine Aq qd F89 E E E qq E ?_
  refine rd qq ?_;conv=>whnf
  refine⟨qq,?_⟩
  conv=>whnf
  exact Ac E (.cons .tmp (.cons (.cell E E E E) (.cons .tmp .nil))) E E
theorem B3 {i:Int} {n:Nat} (h:Aj i n=true):0≤i∧i<n:=by simpa [Aj] using h
theorem Js (i:Int) (n:Nat):Sy.Spec Tryz.prog 300 [Aa i,Aa n] [] (Ad (Aj i n)) []:=Ab Γ hm 100 F300 Tryz.ntmps300 rfl fun F hF=>by
 conv=>whnf
 (repeat' (first | (refine⟨fun h=>?_,fun h=>?_⟩<;>(repeat (first | simp only[decide_eq_true_eq]at h | simp only[decide_eq_false_iff_not]at h))<;>((refine rg ?_);(conv=>whnf))) | (refine Ac rfl (.cons .tmp .nil) ?_ rfl)))
 all_goals (refine congrArg Ad ?_)
 all_goals grind [Aj]
theorem Age (n:Net) (f:FrameM) (h:FrameOK f) (v:Int):Sy.Spec Tryz.prog 302 [Al n,B9 f,Aa v] [] (.tup [.sl 1 Ao (Qp f),Aa 0]) []:=Ab Γ hm 100 F302 Tryz.ntmps302 rfl fun F hF=>by
 conv=>whnf
 refine Ai (Ak [(0,55)] E F45 (I3 f h) E Y E ⟨.inr E,Y⟩) E E ?_
 refine Au 55 E ?_
 refine rg ?_;conv=>whnf
 exact Ac E (.cons .tmp (.cons .tmp .nil)) E E
theorem Ale {f:FrameM} (hf:FrameOK f) (v:Nat) (hv:v≤4094) (h:(tagT f v).2=0):FrameOK (tagT f v).1:=by
 unfold tagT at h ⊢
 split
 ·rw[if_pos (by assumption)]at h;cases h
 rw[if_neg (by assumption)]at h
 split
 ·rw[if_pos (by assumption)]at h;cases h
 refine⟨hf.dst,hf.src,?_,?_⟩
 ·show (33024:Nat)≤65535;decide
 ·dsimp only;simp;omega
theorem Aa7 (n:Net) (f:FrameM) (h:FrameOK f) (v:Nat) (hv:v≤4094) :
  Sy.Spec Tryz.prog 301 [Al n,B9 f,Aa v] [] (.tup [.sl 1 Ao (if (tagT f v).2≠0 then [] else Qp (tagT f v).1),Aa (if (tagT f v).2≠0 then (tagT f v).2 else 0)]) []:=by
 have q:=Ach f v h hv
 have ho:=Ale h v hv
 generalize tagT f v=t at *
 obtain ⟨g,e⟩:=t
 dsimp only at q ho ⊢
 refine Ab Γ hm 100 F301 Tryz.ntmps301 E fun F hF=>by
  conv=>whnf
  refine Ag q F122 E E E E E ?_
  refine rg ?_;conv=>whnf
  by_cases he:e=0
  ·subst he
   (refine⟨fun h=>False.elim (absurd h qx),fun _=>?_⟩;refine rg ?_;conv=>whnf)
   refine A3 8 4 (B9 g) E E E ?_
   refine rg ?_;conv=>whnf
   refine Ai (Ak [(0,55)] E F45 (I3 g (ho E)) E Y E ⟨.inr E,Y⟩) E E ?_
   refine Au 55 E ?_
   refine rg ?_;conv=>whnf
   exact Ac E (.cons .tmp (.cons .tmp .nil)) E E
  ·rw[if_pos he,if_pos he]
   (refine⟨fun _=>?_,fun h=>False.elim (by simp at h;omega)⟩;refine rg ?_;conv=>whnf)
   refine Ap 6 1 Ao E ?_
   exact Ac E (.cons .tmp (.cons .tmp .nil)) E E
theorem Qy {n:Net} (h:Ae n=true) {i:Nat} (hi:i<n.domains.length):1≤n.domains[i].vlan∧n.domains[i].vlan≤4094:=by
 simp only[Ae,Bool.and_eq_true]at h
 have hb:Co (Hy n) n.domains=true:=h.1.1.1.1.1.1.1.2
 have:=allB_iff.1 hb i hi
 simp only[Hy,Bool.and_eq_true,decide_eq_true_eq]at this
 omega
theorem Amq (n:Net) (hn:n.Fin) (port dom:Int) (f:FrameM) (h:FrameOK f) :
  Sy.Spec Tryz.prog 236 [Al n,Aa port,Aa dom,B9 f] [] (.tup [.sl 1 Ao (leaveT n port dom f).1,Aa (leaveT n port dom f).2]) []:=Ab Γ hm 100 F236 Tryz.ntmps236 rfl fun F hF=>by
 have hres:=leaveT.eq_1 n port dom f
 generalize leaveT n port dom f=res at *
 have hr:=Be n hn
 have hpS:=Js port n.ports.length
 have hdS:=Js dom n.domains.length
 conv=>whnf
 refine Ag hpS F300 E E E E E ?_
 cases hpl:Aj port n.ports.length
 ·rw[if_pos (.inl hpl)]at hres
  subst hres
  (refine rg ?_;(conv=>whnf);refine aT ?_;refine rg ?_;(conv=>whnf);refine aT ?_;refine rg ?_;(conv=>whnf);refine aT ?_;refine rg ?_;conv=>whnf)
  refine Ap 8 1 Ao E ?_
  exact Ac E (.cons .tmp (.cons .tmp .nil)) E E
 (refine rg ?_;(conv=>whnf);refine aF ?_;refine rg ?_;conv=>whnf)
 refine Ag hdS F300 E E E E E ?_
 cases hdl:Aj dom n.domains.length
 ·rw[if_pos (.inr (.inl hdl))]at hres
  subst hres
  (refine rg ?_;(conv=>whnf);refine aT ?_;refine rg ?_;(conv=>whnf);refine aT ?_;refine rg ?_;conv=>whnf)
  refine Ap 8 1 Ao E ?_
  exact Ac E (.cons .tmp (.cons .tmp .nil)) E E
 (refine rg ?_;(conv=>whnf);refine aF ?_;refine rg ?_;conv=>whnf)
 refine Ag hr F23 E E E E E ?_
 cases hbn:Ae n
 ·rw[if_pos (.inr (.inr hbn))]at hres
  subst hres
  (refine rg ?_;(conv=>whnf);refine aT ?_;refine rg ?_;conv=>whnf)
  refine Ap 8 1 Ao E ?_
  exact Ac E (.cons .tmp (.cons .tmp .nil)) E E
 rw[if_neg (by simp[hbn,hpl,hdl])]at hres
 have hpi:=B3 hpl
 have hdi:=B3 hdl
 have hp0:0≤port:=hpi.1
 have hd0:0≤dom:=hdi.1
 have hk:port.toNat<n.ports.length:=by omega
 have hkd:dom.toNat<n.domains.length:=by omega
 have e1:nth n.ports port=n.ports[port.toNat]:=Ah hk
 have e2:nth n.domains dom=n.domains[dom.toNat]:=Ah hkd
 have hsh:=hn.tagged _ (List.getElem_mem hk)
 have hv:=Qy hbn hkd
 obtain ⟨p,hp⟩:∃ p,n.ports[port.toNat]'hk=p:=⟨_,rfl⟩
 obtain ⟨d,hd⟩:∃ d,n.domains[dom.toNat]'hkd=d:=⟨_,rfl⟩
 rw[hp]at e1 hsh
 rw[hd]at e2 hv
 rw[e1,e2]at hres
 have qm:=V8 p d.vlan hsh
 (refine rg ?_;(conv=>whnf);refine aF ?_;refine rg ?_;conv=>whnf)
 refine⟨E,hp0,hk,E,hd0,hkd,?_⟩
 rw[hp,hd]
 conv=>whnf
 refine⟨qq,?_⟩
 conv=>whnf
 refine⟨fun h1=>?_,fun h1=>?_⟩
 ·rw[if_pos (.inl (by simpa using h1))]at hres
  subst hres
  (refine rg ?_;(conv=>whnf);refine aT ?_;refine rg ?_;conv=>whnf)
  refine Ap 8 1 Ao E ?_
  exact Ac E (.cons .tmp (.cons .tmp .nil)) E E
 refine A3 10 7 (A5 p) E E E ?_
 refine rg ?_;conv=>whnf
 refine Ag qm F93 E E E E E ?_
 cases hm1:Cp p d.vlan
 ·rw[if_pos (.inr hm1)]at hres
  subst hres
  (refine rg ?_;(conv=>whnf);refine aT ?_;refine rg ?_;conv=>whnf)
  refine Ap 8 1 Ao E ?_
  exact Ac E (.cons .tmp (.cons .tmp .nil)) E E
 rw[if_neg (by simp at h1;simp[hm1,h1])]at hres
 have qt:=M9 f
 by_cases ht:f.typ=33024
 ·rw[if_pos ht]at hres
  subst hres
  rw[decide_eq_true ht]at qt
  (refine rg ?_;(conv=>whnf);refine aF ?_;refine rg ?_;conv=>whnf)
  refine Ag qt F182 E E E E E ?_
  (refine rg ?_;(conv=>whnf);refine aT ?_;refine rg ?_;conv=>whnf)
  refine Ap 8 1 Ao E ?_
  exact Ac E (.cons .tmp (.cons .tmp .nil)) E E
 rw[if_neg ht]at hres
 rw[decide_eq_false ht]at qt
 (refine rg ?_;(conv=>whnf);refine aF ?_;refine rg ?_;conv=>whnf)
 refine Ag qt F182 E E E E E ?_
 (refine rg ?_;(conv=>whnf);refine aF ?_;refine rg ?_;conv=>whnf)
 refine⟨fun h2=>?_,fun h2=>?_⟩
 ·rw[if_pos (by simpa using h2)]at hres
  subst hres
  refine rg ?_;conv=>whnf
  refine D7 ⟨⟨_,_,F302⟩,Age n f h d.vlan⟩ E E E E E E ?_
  refine rg ?_;conv=>whnf
  exact Ac E (.cons .tmp (.cons .tmp .nil)) E E
 rw[if_neg (by simpa using h2)]at hres
 refine rg ?_;conv=>whnf
 have hv0:(d.vlan.toNat:Int)=d.vlan:=by omega
 have qg:=Aa7 n f h d.vlan.toNat qn
 rw[hv0]at qg
 refine D7 ⟨⟨_,_,F301⟩,qg⟩ E E E E E E ?_
 refine rg ?_;conv=>whnf
 by_cases he:(tagT f d.vlan).2=0
 ·rw[if_neg (by simpa using he)]at hres
  subst hres
  rw[if_neg (by simpa using he),if_neg (by simpa using he)]
  exact Ac E (.cons .tmp (.cons .tmp .nil)) E E
 ·rw[if_pos he]at hres
  subst hres
  rw[if_pos he,if_pos he]
  exact Ac E (.cons .tmp (.cons .tmp .nil)) E E
theorem inB_mem {l:List Int} {x:Int}:inB l x=true↔x∈l:=by
 simp[inB]
theorem Agc (n:Net) (hn:n.Fin) (port:Int) (b:List UInt8) (hb:b.length<100000) :
  Sy.Spec Tryz.prog 241 [Al n,Aa port,.sl 1 Ao b] [] (.tup [Aa (linkT n port b).1,Aa (linkT n port b).2.1,B9 (linkT n port b).2.2.1,Aa (linkT n port b).2.2.2]) []:=Ab Γ hm 100 F241 Tryz.ntmps241 rfl fun F hF=>by
 have hres:=linkT.eq_1 n port b
 generalize linkT n port b=res at *
 have qo:=S3 n hn port
 have qe:=Aee n hn (Cn n port) b hb
 generalize Cn n port=o at *
 conv=>whnf
 refine Ag qo F268 E E E E E ?_
 refine rg ?_;conv=>whnf
 refine⟨fun h1=>?_,fun h1=>?_⟩
 ·rw[if_pos (by simpa using h1)]at hres
  subst hres
  refine rg ?_;conv=>whnf
  refine Bc 8 zF E (.cons (.refl _) (.cons (.refl _) (.cons (.refl _) (.cons .nil .nil)))) ?_
  exact Ac E (.cons .tmp (.cons .tmp (.cons (.cell E E E E) (.cons .tmp .nil)))) E E
 rw[if_neg (by simpa using h1)]at hres
 refine rg ?_;conv=>whnf
 refine Ag qe F172 E E E E E ?_
 generalize enterT n o b=en at *
 obtain ⟨x1,g,x2⟩:=en
 subst hres
 refine rg ?_;conv=>whnf
 refine⟨qq,?_⟩
 conv=>whnf
 exact Ac E (.cons .tmp (.cons .tmp (.cons (.cell E E E E) (.cons .tmp .nil)))) E E
end Go.Sy.YteinjapglfkamaaGreat
namespace Go.Sy.YteinjapglfkamaaGreat
open Go.Proofs
theorem Jx (l:List Nat):(C8 l).length=2 * l.length:=by
 induction l with
 | nil=>rfl
 | cons a l ih=>simp only[C8,List.flatMap_cons,List.length_append,List.length_cons,List.length_nil]at ih ⊢;omega
theorem Id (l:List Nat) (n:Nat):C8 (l++[n])=C8 l++[UInt8.ofNat (n / 256),UInt8.ofNat n]:=by simp[C8]
theorem Kk (b:List UInt8) (k m:Nat):numAt b k m<256 ^ m:=by
 have h:=K4 _ ((b.drop k).take m) rfl
 have h2:((b.drop k).take m).length≤m:=by rw[List.length_take];omega
 exact Nat.lt_of_lt_of_le h (Nat.pow_le_pow_right qx h2)
theorem Qq {b:List UInt8} {k:Nat} (h:k+2≤b.length):numAt b k 2=(b[k]'qn).toNat * 256+(b[k+1]'qn).toNat:=by
 rw[numAt,Sc h,Ahi]
theorem Abz {b:List UInt8} {k:Nat} (h:k<b.length):bAt b k=b[k]:=Agp h
theorem Ald {b:List UInt8} {k:Nat} (h:k+3≤b.length):(b.drop k).take 3=[b[k]'qn,b[k+1]'qn,b[k+2]'qn]:=by
 rw[List.drop_eq_getElem_cons qn,List.drop_eq_getElem_cons (i:=k+1) qn,List.drop_eq_getElem_cons (i:=k+2) qn]
 rfl
theorem Alc {b:List UInt8} {k:Nat} (h:k+4≤b.length):(b.drop k).take 4=[b[k]'qn,b[k+1]'qn,b[k+2]'qn,b[k+3]'qn]:=by
 rw[List.drop_eq_getElem_cons qn,List.drop_eq_getElem_cons (i:=k+1) qn,List.drop_eq_getElem_cons (i:=k+2) qn,List.drop_eq_getElem_cons (i:=k+3) qn]
 rfl
theorem numAt3 {b:List UInt8} {k:Nat} (h:k+3≤b.length):numAt b k 3=((b[k]'qn).toNat * 256+(b[k+1]'qn).toNat) * 256+(b[k+2]'qn).toNat:=by
 rw[numAt,Ald h]
 simp[Iv]
theorem numAt4 {b:List UInt8} {k:Nat} (h:k+4≤b.length):numAt b k 4=numAt b k 2 * 65536+numAt b (k+2) 2:=by
 have e:b[k+2+1]'qn=b[k+3]'qn:=rfl
 rw[numAt,Alc h,Qq qn,Qq qn,e]
 simp[Iv]
 omega
theorem Hg (f:FrameM):(Qp f).length=14+f.body.length:=by
 simp[Qp,frame,Dd]
 omega
theorem Qb (p:PacketM) (s:Nat):(H6 p s).length=20:=by rw[H6,Jx];rfl
theorem Mk (p:PacketM):(Vu p).length=20+p.body.length:=by rw[Vu,List.length_append,Qb]
theorem Ace (s d:Nat) (b:List UInt8):(Ak7 s d b).length=8+b.length:=by rw[Ak7,List.length_append,Jx];rfl
theorem I2 (v:Nat):(Ly v).length=8:=rfl
theorem C4:FrameOK noF:=⟨by decide,by decide,by decide,by decide⟩
theorem Xs (ip:Nat) (h:ip<4294967296):Ii ip<281474976710656:=by rw[Ii,Int.toNat_natCast];omega
theorem Yv (n:Net) (port dom:Int) (f:FrameM) (hf:FrameOK f):(leaveT n port dom f).1.length≤1518:=by
 have h4:=hf.body
 unfold leaveT
 split
 ·simp
 split
 ·simp
 split
 ·simp
 split
 ·rw[Hg];omega
 split
 ·simp
 ·rw[Hg]
  rename_i h
  have h2:(tagT f (nth n.domains dom).vlan).2=0:=Classical.byContradiction h
  unfold tagT at h2 ⊢
  split
  ·rw[if_pos (by assumption)]at h2;cases h2
  rw[if_neg (by assumption)]at h2
  split
  ·rw[if_pos (by assumption)]at h2;cases h2
  ·dsimp only
   simp
   omega
theorem Xo {b:List UInt8} (h:(ipTakeT b).2=0):PacketOK (ipTakeT b).1∧(ipTakeT b).1.body.length+20≤b.length:=by
 unfold ipTakeT at h ⊢
 split
 ·rw[if_pos (by assumption)]at h;cases h
 rw[if_neg (by assumption)]at h
 split
 ·rw[if_pos (by assumption)]at h;cases h
 rw[if_neg (by assumption)]at h
 split
 ·rw[if_pos (by assumption)]at h;cases h
 rw[if_neg (by assumption)]at h
 split
 ·rw[if_pos (by assumption)]at h;cases h
 rw[if_neg (by assumption)]at h
 split
 ·rw[if_pos (by assumption)]at h;cases h
 have l1:=(bAt b 1).toNat_lt
 have l8:=(bAt b 8).toNat_lt
 have l9:=(bAt b 9).toNat_lt
 have n4:=Kk b 4 2
 have n12:=Kk b 12 4
 have n16:=Kk b 16 4
 refine⟨⟨?_,?_,?_,?_,?_,?_⟩,?_⟩
 ·show (bAt b 1).toNat≤255;omega
 ·show numAt b 4 2≤65535;omega
 ·show (bAt b 8).toNat≤255;omega
 ·show (bAt b 9).toNat≤255;omega
 ·exact n12
 ·exact n16
 ·show ((b.take (numAt b 2 2)).drop 20).length+20≤b.length
  rw[List.length_drop,List.length_take]
  omega
theorem App {b:List UInt8} (h:(ipTakeT b).2≠0):(ipTakeT b).1=noP:=by
 unfold ipTakeT at h ⊢
 split
 ·rfl
 rw[if_neg (by assumption)]at h
 split
 ·rfl
 rw[if_neg (by assumption)]at h
 split
 ·rfl
 rw[if_neg (by assumption)]at h
 split
 ·rfl
 rw[if_neg (by assumption)]at h
 split
 ·rfl
 rw[if_neg (by assumption)]at h
 exact absurd E h
theorem Af7:PacketOK noP:=⟨by decide,by decide,by decide,by decide,by decide,by decide⟩
theorem Agi (p:PacketM) (s:Nat):((H6 p 0).set 10 (UInt8.ofNat (s / 256))).set 11 (UInt8.ofNat s)=H6 p s:=by
 simp only[H6,C8,List.flatMap_cons,List.flatMap_nil,List.cons_append,List.nil_append,List.set_cons_succ,List.set_cons_zero]
theorem Akz (a b v:Nat) (f:FrameM) (ha:a<4294967296) (hb:b<4294967296):PacketOK (Oz a b v f):=⟨Nat.zero_le _,Nat.zero_le _,by show (64:Nat)≤255;decide,by show (17:Nat)≤255;decide,ha,hb⟩
theorem Iu (a b v:Nat) (f:FrameM):(Oz a b v f).body.length=30+f.body.length:=by
 simp only[Oz,Ace,List.length_append,I2,Hg];omega
theorem Aag (a b:Nat) (v:Int) (f:FrameM):(wrapT a b v f).1.length≤1514:=by
 unfold wrapT
 split
 ·simp
 split
 ·simp
 split
 ·simp
 ·simp only[frame,List.length_append,Dd,Mk,Iu,List.length_cons,List.length_nil];omega
theorem Aa3 (n:Net) (dom peer:Int) (f:FrameM):(meshT n dom peer f).1.length≤1514:=by
 unfold meshT
 split
 ·simp
 split
 ·simp
 ·exact Aag _ _ _ _
theorem Any {b:List UInt8}:(udpTakeT b).2.2.1.length≤b.length:=by
 unfold udpTakeT
 repeat' split
 all_goals first | (simp;done) | (simp only[List.length_drop,List.length_take];omega)
theorem vniT_body {b:List UInt8}:(vniT b).2.1.length≤b.length:=by
 unfold vniT
 repeat' split
 all_goals first | (simp;done) | (simp only[List.length_drop];omega)
theorem Uh (b:List UInt8):PacketOK (outerT b).1∧(outerT b).1.body.length≤b.length:=by
 unfold outerT
 split
 ·exact⟨Af7,by simp[noP]⟩
 split
 ·exact⟨Af7,by simp[noP]⟩
 split
 ·exact⟨Af7,by simp[noP]⟩
 ·rename_i h1 h2 h3
  have h4:(takeF b).2=0:=Classical.byContradiction h1
  have h5:(ipTakeT (takeF b).1.body).2=0:=Classical.byContradiction h3
  obtain ⟨h6,h7⟩:=Xo h5
  refine⟨h6,?_⟩
  have h8:(takeF b).1.body.length≤b.length:=by
   unfold takeF
   repeat' split
   all_goals simp[noF]
  dsimp only
  omega
theorem Zt (b:List UInt8):FrameOK (J9 b).2.1∧0≤(J9 b).1:=by
 unfold J9
 repeat' split
 all_goals first | exact⟨C4,Int.le_refl _⟩ | skip
 rename_i h1 h2 h3 h4 h5
 refine⟨Wn (Classical.byContradiction h4),?_⟩
 show 0≤(vniT (udpTakeT b).2.2.1).1
 unfold vniT
 repeat' split
 all_goals omega
theorem Wl (b:List UInt8):(Bv b).1<4294967296∧(Bv b).2.1<4294967296∧0≤(Bv b).2.2.1∧FrameOK (Bv b).2.2.2.1:=by
 unfold Bv
 split
 ·exact⟨Nat.zero_lt_succ _,Nat.zero_lt_succ _,Int.le_refl _,C4⟩
 split
 ·exact⟨Nat.zero_lt_succ _,Nat.zero_lt_succ _,Int.le_refl _,C4⟩
 ·exact⟨(Uh b).1.src,(Uh b).1.dst,(Zt _).2,(Zt _).1⟩
theorem Z3 (n:Net) (port:Int) (f:FrameM) (hf:FrameOK f) (tg:Bool) (vid:Int):FrameOK (Jn n port f tg vid).2.1:=by
 unfold Jn
 split
 ·exact C4
 split
 ·exact C4
 ·exact hf
theorem Uu (n:Net) (port:Int) (b:List UInt8):FrameOK (enterT n port b).2.1:=by
 unfold enterT
 split
 ·exact C4
 split
 ·exact C4
 rename_i h1 h2
 have h3:=Wn (Classical.byContradiction h2)
 split
 ·split
  ·exact C4
  ·rename_i h5
   exact Z3 _ _ _ (Alh h3 (Classical.byContradiction h5)) _ _
 ·exact Z3 _ _ _ h3 _ _
theorem Adv (n:Net) (port:Int) (b:List UInt8):FrameOK (linkT n port b).2.2.1:=by
 unfold linkT
 split
 ·exact C4
 ·exact Uu _ _ _
theorem Aen (n:Net) (b:List UInt8):FrameOK (comeT n b).2.2.1:=by
 unfold comeT
 split
 ·exact C4
 split
 ·exact C4
 split
 ·exact C4
 split
 ·exact C4
 ·exact(Wl b).2.2.2
theorem Aoy (n:Net) (hm:n.Num) (irb:Int) (f:FrameM) (hin:∀ (d:Int),(lookT n irb d).2=true→0≤(lookT n irb d).1∧(lookT n irb d).1.toNat<n.irbs.length):FrameOK (hopT n irb f).2.1:=by
 unfold hopT
 split
 ·exact C4
 split
 ·exact C4
 split
 ·exact C4
 split
 ·exact C4
 split
 ·exact C4
 split
 ·exact C4
 rename_i h1 h2 h3 h4 h5 h6
 have hp:=(Xo (Classical.byContradiction h3)).1
 have hl:=hin ((ipTakeT f.body).1.dst:Int) (by simpa using h5)
 have ha:=hm.addr _ (List.getElem_mem hl.2)
 rw[← Ah hl.2]at ha
 refine⟨Xs _ hp.dst,?_,?_,?_⟩
 ·show Ii (nth n.irbs _).addr<_
  rw[Ii];omega
 ·show (2048:Nat)≤65535;decide
 ·show (Vu (Agl (ipTakeT f.body).1)).length≤1504
  rw[Mk]
  show 20+(ipTakeT f.body).1.body.length≤1504
  omega
end Go.Sy.YteinjapglfkamaaGreat
namespace Go.Sy.YteinjapglfkamaaGreat
open Go.Proofs
attribute [local irreducible] Go.Sy.G Go.Sy.DR
set_option maxRecDepth 100000
set_option maxHeartbeats 4000000
theorem V3 (a b:Nat) (ha:a<4294967296) (hb:b<4294967296):bits .or .u32 (a:Int) (b:Int)=((a ||| b:Nat):Int):=by
 have hx:a ||| b<2 ^ 32:=Nat.or_lt_two_pow qn qn
 have h1:(BitVec.ofInt 32 (a:Int)).toNat=a:=by
  rw[BitVec.ofInt_natCast,BitVec.toNat_ofNat];exact Nat.mod_eq_of_lt qn
 have h2:(BitVec.ofInt 32 (b:Int)).toNat=b:=by
  rw[BitVec.ofInt_natCast,BitVec.toNat_ofNat];exact Nat.mod_eq_of_lt qn
 show IntKind.u32.wrap ((BitVec.ofInt 32 (a:Int) ||| BitVec.ofInt 32 (b:Int)).toNat:Int)=_
 rw[BitVec.toNat_or,h1,h2,IntKind.wrap_u32]
 omega
theorem Aic (x:UInt8) (k:UInt8):((x.toNat:Int) != (k.toNat:Int))=decide (x≠k):=by
 rw[Bool.eq_iff_iff]
 simp only[bne_iff_ne,decide_eq_true_eq,ne_eq,← UInt8.toNat_inj]
 omega
theorem S5 (b:List UInt8) (k:Nat) (h:k+2≤b.length) (hb:b.length<100000):Sy.Spec Tryz.prog 345 [.sl 1 Ao b,Aa k] [] (Aa (numAt b k 2)) []:=Ab Γ hm 100 F345 Tryz.ntmps345 rfl fun F hF=>by
 have i0:((k:Nat):Int).toNat<b.length:=by simpa using (by omega:k<b.length)
 have i1:((k:Int)+1).toNat<b.length:=by omega
 have e0:b[((k:Nat):Int).toNat]'i0=b[k]'qn:=rfl
 have e1:b[((k:Int)+1).toNat]'i1=b[k+1]'qn:=rfl
 have hp:=Er (b[k]'qn) (b[k+1]'qn)
 have hn:=Qq h
 rw[← hn]at hp
 conv=>whnf
 refine⟨E,by omega,i0,?_⟩
 rw[e0]
 conv=>whnf
 refine⟨by decide,?_⟩
 conv=>whnf
 refine⟨by unfold I64;omega,?_⟩
 conv=>whnf
 refine⟨E,by omega,i1,?_⟩
 rw[e1]
 conv=>whnf
 refine⟨qq,?_⟩
 rw[hp]
 conv=>whnf
 exact Ac E (.cons .tmp .nil) E E
theorem Ak9 (x y:Nat) (hx:x<65536) (hy:y<65536):bits .or .u32 (IntKind.u32.wrap ((IntKind.u32.wrap (x:Int)) * 2 ^ min (Int.toNat 16) IntKind.u32.bits)) (IntKind.u32.wrap (y:Int))=((x * 65536+y:Nat):Int):=by
 have e1:IntKind.u32.wrap (x:Int)=(x:Int):=by rw[IntKind.wrap_u32];omega
 have e2:IntKind.u32.wrap (y:Int)=(y:Int):=by rw[IntKind.wrap_u32];omega
 rw[e1,e2]
 have e3:IntKind.u32.wrap ((x:Int) * 2 ^ min (Int.toNat 16) IntKind.u32.bits)=((x * 65536:Nat):Int):=by
  show IntKind.u32.wrap ((x:Int) * 65536)=_
  rw[IntKind.wrap_u32]
  omega
 rw[e3,V3 _ _ qn qn]
 congr 1
 have h:=Nat.two_pow_add_eq_or_of_lt (i:=16) (b:=y) qn x
 rw[Nat.mul_comm x 65536]
 exact h.symm
theorem Ah3 (b:List UInt8) (k:Nat) (h:k+4≤b.length) (hb:b.length<100000):Sy.Spec Tryz.prog 347 [.sl 1 Ao b,Aa k] [] (Bj (numAt b k 4)) []:=Ab Γ hm 100 F347 Tryz.ntmps347 rfl fun F hF=>by
 have q1:=S5 b k qn hb
 have q2:=S5 b (k+2) qn hb
 rw[show ((k+2:Nat):Int)=(k:Int)+2 by omega]at q2
 have hf:=Ak9 (numAt b k 2) (numAt b (k+2) 2) (by have:=Kk b k 2;omega) (by have:=Kk b (k+2) 2;omega)
 rw[← numAt4 h]at hf
 conv=>whnf
 refine Ag q1 F345 E E E E E ?_
 refine rg ?_;conv=>whnf
 refine⟨by decide,?_⟩
 conv=>whnf
 refine⟨by unfold I64;omega,?_⟩
 conv=>whnf
 refine Ag q2 F345 E E E E E ?_
 refine rg ?_;conv=>whnf
 rw[hf]
 exact Ac E (.cons .tmp .nil) E E
theorem Aiq (l:List UInt8) (hl:l.length<100000) (h2:l.length % 2=0):Sy.Spec Tryz.prog 346 [.sl 1 Ao l] [] (Ad (decide (H1 (Q3 l (l.length / 2))=65535))) []:=Ab Γ hm 100 F346 Tryz.ntmps346 rfl fun F hF=>by
 have ha:=Ahk l hl h2
 conv=>whnf
 refine Ag ha F156 E E E E E ?_
 refine rg ?_;conv=>whnf
 refine Ac E (.cons .tmp .nil) (congrArg Ad ?_) E
 rw[Bool.eq_iff_iff]
 simp only[beq_iff_eq,decide_eq_true_eq]
 omega
abbrev zP:List SV:=[Aa 0,Aa 0,Aa 0,Aa 0,Bj 0,Bj 0,.sl 1 Ao []]
theorem Ah2 (b:List UInt8) (hb:b.length<100000):Sy.Spec Tryz.prog 297 [.sl 1 Ao b] [] (.tup [Ss (ipTakeT b).1,Aa (ipTakeT b).2]) []:=Ab Γ hm 100 F297 Tryz.ntmps297 rfl fun F hF=>by
 have hres:=ipTakeT.eq_1 b
 generalize ipTakeT b=res at *
 conv=>whnf
 refine⟨fun h=>?_,fun h=>?_⟩
 ·rw[if_pos (by have:=of_decide_eq_true h;omega)]at hres
  subst hres
  refine rg ?_;conv=>whnf
  refine Bc 2 zP E (.cons (.refl _) (.cons (.refl _) (.cons (.refl _) (.cons (.refl _) (.cons (.refl _) (.cons (.refl _) (.cons .nil .nil))))))) ?_
  exact Ac E (.cons (.cell E E E E) (.cons .tmp .nil)) E E
 have h20:20≤b.length:=by have:=of_decide_eq_false h;omega
 rw[if_neg qn]at hres
 clear h
 have i0:(0:Int).toNat<b.length:=by show 0<_;omega
 have i1:(1:Int).toNat<b.length:=by show 1<_;omega
 have i8:(8:Int).toNat<b.length:=by show 8<_;omega
 have i9:(9:Int).toNat<b.length:=by show 9<_;omega
 have e0:b[(0:Int).toNat]'i0=bAt b 0:=(Abz qn).symm
 have q2:=S5 b 2 qn hb
 have q4:=S5 b 4 qn hb
 have q6:=S5 b 6 qn hb
 have q12:=Ah3 b 12 qn hb
 have q16:=Ah3 b 16 qn hb
 have hl20:(b.take 20).length=20:=by rw[List.length_take];omega
 have hdiv:(b.take 20).length / 2=10:=by rw[hl20]
 have qs:=Aiq (b.take 20) qn (by rw[hl20])
 rw[hdiv]at qs
 refine rg ?_;conv=>whnf
 refine⟨E,by decide,i0,?_⟩
 rw[e0]
 conv=>whnf
 refine⟨fun h=>?_,fun h=>?_⟩
 ·rw[if_pos (.inl (by rw[show ((69:Int))=((69:UInt8).toNat:Int) from rfl,Aic]at h;exact of_decide_eq_true h))]at hres
  subst hres
  (refine rg ?_;(conv=>whnf);refine aT ?_;refine rg ?_;conv=>whnf)
  refine Bc 2 zP E (.cons (.refl _) (.cons (.refl _) (.cons (.refl _) (.cons (.refl _) (.cons (.refl _) (.cons (.refl _) (.cons .nil .nil))))))) ?_
  exact Ac E (.cons (.cell E E E E) (.cons .tmp .nil)) E E
 have h69:¬ bAt b 0≠69:=by rw[show ((69:Int))=((69:UInt8).toNat:Int) from rfl,Aic]at h;exact of_decide_eq_false h
 clear h
 refine rg ?_;conv=>whnf
 refine Ag q2 F345 E E E E E ?_
 refine rg ?_;conv=>whnf
 refine⟨fun h=>?_,fun h=>?_⟩
 ·rw[if_pos (.inr (by have:=of_decide_eq_true h;omega))]at hres
  subst hres
  refine rg ?_;conv=>whnf
  refine Bc 2 zP E (.cons (.refl _) (.cons (.refl _) (.cons (.refl _) (.cons (.refl _) (.cons (.refl _) (.cons (.refl _) (.cons .nil .nil))))))) ?_
  exact Ac E (.cons (.cell E E E E) (.cons .tmp .nil)) E E
 have hs20:20≤numAt b 2 2:=by have:=of_decide_eq_false h;omega
 rw[if_neg (fun h=>h.elim h69 qn)]at hres
 clear h
 refine rg ?_;conv=>whnf
 refine Ag q2 F345 E E E E E ?_
 refine rg ?_;conv=>whnf
 refine⟨fun h=>?_,fun h=>?_⟩
 ·rw[if_pos (by have:=of_decide_eq_true h;omega)]at hres
  subst hres
  refine rg ?_;conv=>whnf
  refine Bc 2 zP E (.cons (.refl _) (.cons (.refl _) (.cons (.refl _) (.cons (.refl _) (.cons (.refl _) (.cons (.refl _) (.cons .nil .nil))))))) ?_
  exact Ac E (.cons (.cell E E E E) (.cons .tmp .nil)) E E
 have hsl:numAt b 2 2≤b.length:=by have:=of_decide_eq_false h;omega
 rw[if_neg qn]at hres
 clear h
 refine rg ?_;conv=>whnf
 refine Ag q6 F345 E E E E E ?_
 refine rg ?_;conv=>whnf
 refine⟨fun h=>?_,fun h=>?_⟩
 ·rw[if_pos (by have:(numAt b 6 2:Int)≠0:=(by simpa using h);omega)]at hres
  subst hres
  refine rg ?_;conv=>whnf
  refine Bc 2 zP E (.cons (.refl _) (.cons (.refl _) (.cons (.refl _) (.cons (.refl _) (.cons (.refl _) (.cons (.refl _) (.cons .nil .nil))))))) ?_
  exact Ac E (.cons (.cell E E E E) (.cons .tmp .nil)) E E
 rw[if_neg (by have:(numAt b 6 2:Int)=0:=(by simpa using h);omega)]at hres
 clear h
 refine rg ?_;conv=>whnf
 refine Ai (Cm (lo:=0) (hi:=20) Γ.toTy E E E E (.inl ⟨E,E⟩) (.inr ⟨_,_,E,E⟩) qn h20) E E ?_
 refine rg ?_;conv=>whnf
 refine Ag qs F346 E E E E E ?_
 by_cases hsum:H1 (Q3 (b.take 20) 10)=65535
 rotate_left
 ·rw[if_pos hsum]at hres
  subst hres
  rw[decide_eq_false hsum]
  (refine rg ?_;(conv=>whnf);refine aT ?_;refine rg ?_;conv=>whnf)
  refine Bc 2 zP E (.cons (.refl _) (.cons (.refl _) (.cons (.refl _) (.cons (.refl _) (.cons (.refl _) (.cons (.refl _) (.cons .nil .nil))))))) ?_
  exact Ac E (.cons (.cell E E E E) (.cons .tmp .nil)) E E
 rw[if_neg (fun h=>h hsum)]at hres
 subst hres
 rw[decide_eq_true hsum]
 have qc:=Lr ((b.take (numAt b 2 2)).drop 20) (by rw[List.length_drop,List.length_take];omega)
 have w1:IntKind.i64.wrap ((b[(1:Int).toNat]'i1).toNat:Int)=((bAt b 1).toNat:Int):=by
  rw[Abz (show 1<b.length by omega)]
  have:=(b[1]'qn).toNat_lt
  show IntKind.i64.wrap ((b[1]'qn).toNat:Int)=_
  rw[IntKind.wrap_i64];omega
 have w8:IntKind.i64.wrap ((b[(8:Int).toNat]'i8).toNat:Int)=((bAt b 8).toNat:Int):=by
  rw[Abz (show 8<b.length by omega)]
  have:=(b[8]'qn).toNat_lt
  show IntKind.i64.wrap ((b[8]'qn).toNat:Int)=_
  rw[IntKind.wrap_i64];omega
 have w9:IntKind.i64.wrap ((b[(9:Int).toNat]'i9).toNat:Int)=((bAt b 9).toNat:Int):=by
  rw[Abz (show 9<b.length by omega)]
  have:=(b[9]'qn).toNat_lt
  show IntKind.i64.wrap ((b[9]'qn).toNat:Int)=_
  rw[IntKind.wrap_i64];omega
 (refine rg ?_;(conv=>whnf);refine aF ?_;refine rg ?_;conv=>whnf)
 refine⟨E,by decide,i1,?_⟩
 conv=>whnf
 refine Aq q4 F345 E E E qq E ?_
 refine rd qq ?_;conv=>whnf
 refine⟨E,by decide,i8,?_⟩
 conv=>whnf
 refine⟨E,by decide,i9,?_⟩
 conv=>whnf
 refine Aq q12 F347 E E E qq E ?_
 refine rd qq ?_;conv=>whnf
 refine Aq q16 F347 E E E qq E ?_
 refine rd qq ?_;conv=>whnf
 refine Aq q2 F345 E E E qq E ?_
 refine rd qq ?_;conv=>whnf
 refine Bn (Cm (lo:=20) (hi:=numAt b 2 2) Γ.toTy E E E E (.inr ⟨_,_,E,E⟩) (.inr ⟨_,_,E,E⟩) hs20 hsl) qq E ?_
 refine rd qq ?_;conv=>whnf
 refine Aq qc F290 E E E qq E ?_
 refine rd qq ?_;conv=>whnf
 refine⟨qq,?_⟩
 conv=>whnf
 refine Ac E (.cons (.cell E E E E) (.cons .tmp .nil)) ?_ E
 show SV.tup [.agg [Aa (bAt b 1).toNat,_,Aa (bAt b 8).toNat,Aa (bAt b 9).toNat,_,_,_],_]=SV.tup [.agg [Aa (IntKind.i64.wrap ((b[(1:Int).toNat]'i1).toNat:Int)),_,Aa (IntKind.i64.wrap ((b[(8:Int).toNat]'i8).toNat:Int)),Aa (IntKind.i64.wrap ((b[(9:Int).toNat]'i9).toNat:Int)),_,_,_],_]
 rw[w1,w8,w9]
 rfl
theorem Al6 (t:Nat) (h:t≤255):bits .or .i64 17664 (t:Int)=((17664+t:Nat):Int):=by
 have h1:=Dc 17664 t qx qn
 rw[show ((17664:Nat):Int)=17664 from rfl]at h1
 rw[h1]
 congr 1
 have h2:=Nat.two_pow_add_eq_or_of_lt (i:=8) (b:=t) qn 69
 rw[show 2 ^ 8 * 69=17664 from rfl]at h2
 rw[← h2]
theorem Aoi (x y:Nat) (hx:x≤255) (hy:y≤255):bits .or .i64 (IntKind.i64.wrap ((x:Int) * 2 ^ min (Int.toNat 8) IntKind.i64.bits)) (y:Int)=((x * 256+y:Nat):Int):=by
 have h3:IntKind.i64.wrap ((x:Int) * 2 ^ min (Int.toNat 8) IntKind.i64.bits)=((x * 256:Nat):Int):=by
  show IntKind.i64.wrap ((x:Int) * 256)=_
  rw[IntKind.wrap_i64]
  omega
 rw[h3,Dc _ _ qn qn]
 congr 1
 have h:=Nat.two_pow_add_eq_or_of_lt (i:=8) (b:=y) qn x
 rw[Nat.mul_comm x 256]
 exact h.symm
theorem Ad5 (x:Nat) (h:x<4294967296):IntKind.i64.wrap ((x:Int).fdiv (2 ^ (min (Int.toNat 16) IntKind.u32.bits)))=((x / 65536:Nat):Int):=by
 show IntKind.i64.wrap ((x:Int).fdiv 65536)=_
 rw[Int.fdiv_eq_ediv_of_nonneg _ qx,IntKind.wrap_i64]
 omega
theorem Ahz (x:Nat) (h:x<4294967296):IntKind.i64.wrap (x:Int)=(x:Int):=by rw[IntKind.wrap_i64];omega
theorem Aa9 (p:PacketM) (hp:PacketOK p) (hb:p.body.length<100000):Sy.Spec Tryz.prog 43 [Ss p] [] (.tup [.sl 1 Ao (ipPutT p).1,Aa (ipPutT p).2]) []:=Ab Γ hm 100 F43 Tryz.ntmps43 rfl fun F hF=>by
 have hres:=ipPutT.eq_1 p
 generalize ipPutT p=res at *
 have h1:=hp.tos
 have h2:=hp.id
 have h3:=hp.ttl
 have h4:=hp.proto
 have h5:=hp.src
 have h6:=hp.dst
 conv=>whnf
 refine D7 ⟨⟨_,_,F103⟩,Aao p.tos 255 qn⟩ E E E E E E ?_
 (refine rg ?_;(conv=>whnf);refine aF ?_;refine rg ?_;conv=>whnf)
 refine D7 ⟨⟨_,_,F103⟩,Aao p.ttl 255 qn⟩ E E E E E E ?_
 (refine rg ?_;(conv=>whnf);refine aF ?_;refine rg ?_;conv=>whnf)
 refine D7 ⟨⟨_,_,F103⟩,Aao p.proto 255 qn⟩ E E E E E E ?_
 (refine rg ?_;(conv=>whnf);refine aF ?_;refine rg ?_;conv=>whnf)
 refine D7 ⟨⟨_,_,F103⟩,Aao p.id 65535 qn⟩ E E E E E E ?_
 (refine rg ?_;(conv=>whnf);refine aF ?_;refine rg ?_;conv=>whnf)
 refine⟨fun h=>?_,fun h=>?_⟩
 ·rw[if_pos (by have:=of_decide_eq_true h;omega)]at hres
  subst hres
  refine rg ?_;conv=>whnf
  refine Ap 2 1 Ao E ?_
  exact Ac E (.cons .tmp (.cons .tmp .nil)) E E
 have hl:p.body.length≤1480:=by have:=of_decide_eq_false h;omega
 rw[if_neg qn]at hres
 subst hres
 clear h
 have hsz:Vu p=((H6 p 0).set 10 (UInt8.ofNat (Zr p / 256))).set 11 (UInt8.ofNat (Zr p))++p.body:=by rw[Agi,Vu]
 rw[hsz]
 have hil:=Qb p 0
 have hs:=sumOfS (H6 p 0) (by rw[hil];decide) (by rw[hil])
 have hput:=Amr [17664+p.tos,20+p.body.length,p.id,0,p.ttl * 256+p.proto,0,p.src / 65536,p.src,p.dst / 65536,p.dst] qy
 rw[show Je [17664+p.tos,20+p.body.length,p.id,0,p.ttl * 256+p.proto,0,p.src / 65536,p.src,p.dst / 65536,p.dst]=H6 p 0 from rfl]at hput
 have hss:Ahj (H6 p 0)=Zr p:=rfl
 rw[hss]at hs
 have hsl:Zr p≤65535:=Nat.sub_le _ _
 generalize Zr p=s at *
 have htb:=Em s
 have o1:=Al6 p.tos h1
 have o2:=Aoi p.ttl p.proto h3 h4
 have g1:=Ad5 p.src h5
 have g2:=Ahz p.src h5
 have g3:=Ad5 p.dst h6
 have g4:=Ahz p.dst h6
 generalize H6 p 0=b at *
 refine rg ?_;conv=>whnf
 refine⟨by unfold I64;omega,?_⟩
 conv=>whnf
 refine⟨by decide,?_⟩
 conv=>whnf
 refine⟨by decide,?_⟩
 conv=>whnf
 refine⟨by decide,?_⟩
 conv=>whnf
 refine Ae5 68 (e:=Ame) (l:=[17664+p.tos,20+p.body.length,p.id,0,p.ttl * 256+p.proto,0,p.src / 65536,p.src,p.dst / 65536,p.dst]) E ?_ ?_
 ·show _=[SV.val (.int .i64 (bits .or .i64 17664 (p.tos:Int))),SV.val _,SV.val _,SV.val _,SV.val (.int .i64 (bits .or .i64 (IntKind.i64.wrap ((p.ttl:Int) * 2 ^ min (Int.toNat 8) IntKind.i64.bits)) (p.proto:Int))),SV.val _,
   SV.val (.int .i64 (IntKind.i64.wrap ((p.src:Int).fdiv (2 ^ (min (Int.toNat 16) IntKind.u32.bits))))),SV.val (.int .i64 (IntKind.i64.wrap (p.src:Int))),SV.val (.int .i64 (IntKind.i64.wrap ((p.dst:Int).fdiv (2 ^ (min (Int.toNat 16) IntKind.u32.bits))))),SV.val (.int .i64 (IntKind.i64.wrap (p.dst:Int)))]
  rw[o1,o2,g1,g2,g3,g4]
  rfl
 refine Au 68 E ?_
 refine Ai (Ak [(0,69)] E F104 hput E Y E ⟨.inr E,Y⟩) E E ?_
 refine rg ?_;conv=>whnf
 refine Aes [69] hs F105 E (.cons (.row E E) .nil) E E E ?_
 refine rg ?_;conv=>whnf
 have hb1:=(List.cons.inj htb).1
 have hb2:=(List.cons.inj (List.cons.inj htb).2).1
 refine⟨by omega,?_⟩
 conv=>whnf
 refine⟨by decide,by rw[hil];decide,?_⟩
 conv=>whnf
 refine⟨E,by rw[hil];decide,UInt8.ofNat (s / 256),congrArg (fun z=>[z]) hb1,E,?_⟩
 conv=>whnf
 refine⟨by decide,by simp[hil],?_⟩
 conv=>whnf
 refine⟨E,by simp[hil],UInt8.ofNat s,congrArg (fun z=>[z]) hb2,E,?_⟩
 conv=>whnf
 refine Ai (Am Γ.toTy 84 E E E E E (.row E) .sl qx (by simp[hil];omega) (by simp[hil];omega)) E E ?_
 refine Au 84 E ?_
 refine rg ?_;conv=>whnf
 exact Ac E (.cons .tmp (.cons .tmp .nil)) E E
def hop1 (p:PacketM):PacketM × Int:=if p.ttl≤1 then (noP,13) else (Agl p,0)
theorem ipHopS (p:PacketM) (hb:p.body.length<100000) (ht:p.ttl≤255):Sy.Spec Tryz.prog 298 [Ss p] [] (.tup [Ss (hop1 p).1,Aa (hop1 p).2]) []:=Ab Γ hm 100 F298 Tryz.ntmps298 rfl fun F hF=>by
 have hres:=hop1.eq_1 p
 generalize hop1 p=res at *
 have qc:=Lr p.body qn
 conv=>whnf
 refine⟨fun h=>?_,fun h=>?_⟩
 ·rw[if_pos (by have:=of_decide_eq_true h;omega)]at hres
  subst hres
  refine rg ?_;conv=>whnf
  refine Bc 2 zP E (.cons (.refl _) (.cons (.refl _) (.cons (.refl _) (.cons (.refl _) (.cons (.refl _) (.cons (.refl _) (.cons .nil .nil))))))) ?_
  exact Ac E (.cons (.cell E E E E) (.cons .tmp .nil)) E E
 have h2:¬ p.ttl≤1:=by have:=of_decide_eq_false h;omega
 rw[if_neg h2]at hres
 subst hres
 have e:((p.ttl-1:Nat):Int)=(p.ttl:Int)-1:=by omega
 refine rg ?_;conv=>whnf
 refine⟨by unfold I64;omega,?_⟩
 conv=>whnf
 refine Ag qc F290 E E E E E ?_
 refine rg ?_;conv=>whnf
 refine Ac E (.cons (.cell E E E E) (.cons .tmp .nil)) ?_ E
 show SV.tup [.agg [_,_,Aa ((p.ttl-1:Nat):Int),_,_,_,_],_]=SV.tup [.agg [_,_,Aa ((p.ttl:Int)-1),_,_,_,_],_]
 rw[e]
 rfl
end Go.Sy.YteinjapglfkamaaGreat
namespace Go.Sy
theorem Aii {C:Cx} {kk:List KI} {s:SS} (q:Nat) (r:List Nat) {sz:Nat} {α:Type} {e:α→SV} {l:List α} (h:s.h q=.row sz e l) (hl:l≠[]) (hr:∀ i∈r,s.σ i=.osl q)
  (hg:∀ b cap,l.length≤cap→G C kk ⟨freezeσ s.σ (.val (.slice (some ⟨b,0,none⟩) l.length cap)) r,upd s.h q (.pin b l.length cap sz e l)⟩):G C kk s:=fun κ a w hs=>by
 have hob:=hs.obj q
 rw[h]at hob
 rcases hob with ⟨_,h1⟩ | hrow
 ·exact absurd h1 hl
 obtain ⟨b,cap,cs,T,fr,e1,e2,e3,e4,e5,e6⟩:=hrow
 refine hg b cap e5 κ a w ⟨hs.defers,hs.size,hs.inv,hs.ctx,fun i=>?_,fun j=>?_⟩
 ·refine freezeσ_ok r _ i (hs.slot i) (fun hi=>?_)
  have:=hs.slot i
  rw[hr i hi]at this
  simp only[Rd,e1]at this
  simp only[Rd]
  exact this
 ·show ObOK κ w j (upd s.h q _ j)
  by_cases hj:j=q
  ·subst hj;rw[Bi];exact⟨e1,b,cap,cs,T,fr,e1,e2,e3,e4,e5,e6⟩
  ·rw[B0 _ _ hj];exact hs.obj j
theorem We {C:Cx} {kk:List KI} {s:SS} (q d:Nat) (r:List Nat) (m:Nat) {b n cap sz:Nat} {α:Type} {e:α→SV} {l:List α} (h:s.h q=.pin b n cap sz e l) (hd:s.h d=.fresh) (hm:m≤l.length)
  (hr:∀ i∈r,s.σ i=.val (.slice (some ⟨b,0,none⟩) m cap)) (hg:G C kk ⟨freezeσ s.σ (.osl d) r,upd (upd s.h q .non) d (.row sz e (l.take m))⟩):G C kk s:=fun κ a w hs=>by
 have hob:=hs.obj q
 rw[h]at hob
 have hnew:κ d=.new:=by have:=hs.obj d;rwa [hd]at this
 obtain ⟨e0,b',cap',cs,T,fr,e1,e2,e3,e4,e5,e6⟩:=hob
 rw[e0]at e1
 cases e1
 have hln:l.length≤n:=by
  by_cases h0:l.length=0
  ·omega
  ·have:=(e6 (l.length-1) _ ⟨by omega,rfl⟩).1
   omega
 obtain ⟨st,inv⟩:=Ke (n':=m) (w':=w) hs.inv e0 hnew rfl rfl rfl rfl (fun _ _=>rfl)
 have hlt:(l.take m).length=m:=by rw[List.length_take];omega
 refine hg _ a w ⟨hs.defers,hs.size,inv,hs.ctx.step inv st,fun j=>?_,fun j=>?_⟩
 ·refine freezeσ_ok r _ j (Rd.step st _ _ (hs.slot j)) (fun hj=>?_)
  have:=hs.slot j
  rw[hr j hj]at this
  simp only[Rd]at this
  simp[Rd,As,this]
 ·show ObOK _ w j (upd (upd s.h q .non) d _ j)
  by_cases hj:j=d
  ·subst hj;rw[Bi]
   refine .inr ⟨b,cap,cs,T,fr,by rw[As,hlt],e2,e3,e4,by omega,fun i x hx=>?_⟩
   obtain ⟨hi,rfl⟩:=hx
   obtain ⟨_,u,q2,q3⟩:=e6 i (e l[i]) ⟨by omega,rfl⟩
   refine⟨hi,u,?_,q3⟩
   rw[List.getElem_take]
   exact RdD.keep st.keeps _ _ q2
  ·rw[B0 _ _ hj]
   by_cases hj2:j=q
   ·subst hj2;rw[Bi];trivial
   ·rw[B0 _ _ hj2];exact ObOK.step st (fun e=>e.elim hj2 hj) _ (hs.obj j)
theorem Cz {P:Program} (Γ:Ty P) {o:Oper} {s:SS} {t:TypeId} {ti:TI} {et:TypeId} {sz eb b n cap lo hi:Nat} {ez:List Value} {x:Operand} {lx hx:Option Operand}
  (h:o.op=.slice t x lx hx none) (ht:Γ.get t=some ti) (hk:ti.k=.slice et sz eb ez) (hxe:ev s x=.val (.slice (some ⟨b,0,none⟩) n cap)) (hlo:BoundIs s lx 0 lo) (hhi:BoundIs s hx n hi) (h1:lo≤hi) (h2:hi≤cap) :
  Good P o s ⟨.val (.slice (some (if cap=lo then ⟨b,0,none⟩ else ⟨b,lo * sz,none⟩)) (hi-lo) (cap-lo)),[],[]⟩ :=
 Good.pure fun κ a w _ hr _=>by
  have r1:=hr x (by simp[h,Op.operands])
  rw[hxe]at r1
  obtain ⟨hu,i,zv,q1,q2,q3,q4,q5⟩:=B1 Γ ht hk
  have b1:=hlo.val (a:=a) (fun y hy=>hr y (by simp[h,Op.operands,hy]))
  have b2:=hhi.val (a:=a) (fun y hy=>hr y (by simp[h,Op.operands,hy]))
  have hb:=E5 (P:=P) w (len:=n) (cap:=cap) b1 b2 h1 h2
  refine⟨.slice (some (if cap=lo then ⟨b,0,none⟩ else ⟨b,lo * sz,none⟩)) (hi-lo) (cap-lo),?_,by simp only[Rd]⟩
  by_cases hc:cap=lo
  ·subst hc
   simp[execOp,h,r1.val,Instr.sliceAt,Instr.slice,run_underlying hu,hb,sizeOf,typeInfo,q1]
  ·simp[execOp,h,r1.val,Instr.sliceAt,Instr.slice,run_underlying hu,hb,sizeOf,typeInfo,q1,q2,hc,Addr.add_lit]
theorem Yx {P:Program} (Γ:Ty P) {o:Oper} {s:SS} {t:TypeId} {ti:TI} {et:TypeId} {sz eb b n cap lo hi mm:Nat} {ez:List Value} {x:Operand} {lx hx mx:Operand} {k1 k2 k3:IntKind}
  (h:o.op=.slice t x (some lx) (some hx) (some mx)) (ht:Γ.get t=some ti) (hk:ti.k=.slice et sz eb ez) (hxe:ev s x=.val (.slice (some ⟨b,0,none⟩) n cap)) (hlo:ev s lx=.val (.int k1 lo)) (hhi:ev s hx=.val (.int k2 hi)) (hmx:ev s mx=.val (.int k3 mm))
  (h1:lo≤hi) (h2:hi≤mm) (h3:mm≤cap):Good P o s ⟨.top,[],[]⟩ :=
 Good.pure fun κ a w _ hr _=>by
  have r1:=hr x (by simp[h,Op.operands])
  have r2:=hr lx (by simp[h,Op.operands])
  have r3:=hr hx (by simp[h,Op.operands])
  have r4:=hr mx (by simp[h,Op.operands])
  rw[hxe]at r1
  rw[hlo]at r2
  rw[hhi]at r3
  rw[hmx]at r4
  obtain ⟨hu,i,zv,q1,q2,q3,q4,q5⟩:=B1 Γ ht hk
  have hb:(Instr.sliceBounds true n cap (some (a.eval lx)) (some (a.eval hx)) (some (a.eval mx))).run P w=.ok (lo,hi,mm) w:=by
   rw[r2.val,r3.val,r4.val]
   simp[Instr.sliceBounds,Instr.sliceBound,asIntOf,h1,h2,h3]
  refine⟨.slice (some (if mm=lo then ⟨b,0,none⟩ else ⟨b,lo * sz,none⟩)) (hi-lo) (mm-lo),?_,by simp only[Rd,RdD]⟩
  by_cases hc:mm=lo
  ·subst hc
   simp[execOp,h,r1.val,Instr.sliceAt,Instr.slice,run_underlying hu,hb,sizeOf,typeInfo,q1]
  ·simp[execOp,h,r1.val,Instr.sliceAt,Instr.slice,run_underlying hu,hb,sizeOf,typeInfo,q1,q2,hc,Addr.add_lit]
theorem L5 {κ:Ka} {w w':World} {k b n cap:Nat} (hi:Inv κ w) (hk:κ k=.row b n cap) (hos:w'.os=w.os) (ht:w'.tape=w.tape) (ho:w'.output=w.output)
  (hs:w'.heap.size=w.heap.size) (hb:∀ i,i≠b→w'.heap[i]? = w.heap[i]?):Step (fun j=>j=k) κ w κ w'∧Inv κ w':=by
 have hkb:(κ k).block? = some b:=by rw[hk];rfl
 refine⟨⟨by omega,hos,ht,ho,E,fun c hm=>hb c (fun e=>hi.apart k b hkb (e ▸ hm)),fun c _ hn=>hb c (fun e=>hn (.inl ⟨k,e ▸ hkb⟩)),fun j c hj hjc=>hb c (fun e=>hj ?_),fun _ _=>rfl,fun _ _=>.inr (.inl E),fun _ h=>.inl h⟩,
  ⟨hi.inj,fun j c h=>by rw[hs];exact hi.bnd j c h,hi.apart,fun c h=>by rw[hs];exact hi.mbnd c h⟩⟩
 subst e
 exact hi.inj j k _ hjc hkb
theorem Aco {cs:List Value} {sz n:Nat} (h:∀ i,i<n→∃ u:Value,u.cells.size=sz∧Ones u.cells.toList∧∀ j,j<sz→cs[i * sz+j]? = u.cells[j]?) {p:Nat} (hp:p<n * sz) {v:Value} (hv:cs[p]? = some v):v.oneCell'=true:=by
 have h0:0<sz:=by
  rcases Nat.eq_zero_or_pos sz with rfl | h
  ·simp at hp
  ·exact h
 obtain ⟨u,h1,h2,h3⟩:=h (p / sz) (Nat.div_lt_of_lt_mul (by rw[Nat.mul_comm];exact hp))
 have h4:=h3 (p % sz) (Nat.mod_lt _ h0)
 rw[Nat.mul_comm,Nat.div_add_mod,hv]at h4
 obtain ⟨hl,he⟩:=Array.getElem?_eq_some_iff.1 h4.symm
 refine h2 v ?_
 rw[← he]
 exact Array.getElem_mem_toList hl
theorem V0 {P:Program} (Γ:Ty P) {o:Oper} {s:SS} (q:Nat) {t:TypeId} {ti:TI} {et:TypeId} {sz eb b n cap i j:Nat} {ez:List Value} {x y:Operand} {α:Type} {e:α→SV} {l:List α} {B:Option Addr} {c:Nat}
  (h:o.op=.call ⟨.builtin .append,#[x,y],#[t,t]⟩) (ht:Γ.get t=some ti) (hk:ti.k=.slice et sz eb ez) (hx:ev s x=.val (.slice (some ⟨b,0,none⟩) i cap))
  (hy:ev s y=.val (.slice B (n-j) c)) (hB:B=some (if cap=j then ⟨b,0,none⟩ else ⟨b,j * sz,none⟩)) (hob:s.h q=.pin b n cap sz e l) (hl:l.length=n) (hij:i≤j) (hj:j≤n) :
  Good P o s ⟨.val (.slice (some ⟨b,0,none⟩) (i+(n-j)) cap),[],[(q,.pin b n cap sz e (l.take i++l.drop j))]⟩:=by
 intro κ a w hinv hr ho N Q hN
 have r1:=hr x (by simp[h,Op.operands,Call.operands])
 have r2:=hr y (by simp[h,Op.operands,Call.operands])
 rw[hx]at r1
 rw[hy]at r2
 subst hB
 have hq:=ho q (.inr (by simp[Up.ws]))
 rw[hob]at hq
 obtain ⟨e0,b',cap',cs,T,fr,e1,e2,e3,e4,e5,e6⟩:=hq
 rw[e0]at e1
 cases e1
 obtain ⟨hu,ii,zv,q1,q2,q3,q4,q5⟩:=B1 Γ ht hk
 have hall:∀ i,i<n→∃ u:Value,u.cells.size=sz∧Ones u.cells.toList∧∀ j,j<sz→cs[i * sz+j]? = u.cells[j]?:=fun i hi=>by
  obtain ⟨_,u,_,u2⟩:=e6 i (e l[i]) ⟨by omega,rfl⟩
  exact⟨u,u2⟩
 obtain ⟨news,hnews⟩:∃ news,news=(cs.drop (j * sz)).take ((n-j) * sz):=⟨_,rfl⟩
 have hmul:(n-j) * sz+j * sz=n * sz:=by rw[← Nat.add_mul];congr 1;omega
 have hnc:n * sz≤cap * sz:=Nat.mul_le_mul_right sz e5
 have hijs:i * sz≤j * sz:=Nat.mul_le_mul_right sz hij
 have hnl:news.length=(n-j) * sz:=by rw[hnews,List.length_take,List.length_drop];omega
 have hget:∀ p,p<(n-j) * sz→news[p]? = cs[j * sz+p]?:=fun p hp=>by
  rw[hnews,List.getElem?_take,if_pos hp,List.getElem?_drop]
 have hones:Ones news:=fun v hv=>by
  obtain ⟨p,hp,he⟩:=List.getElem_of_mem hv
  have h1:news[p]? = some v:=by rw[List.getElem?_eq_getElem hp,he]
  rw[hnl]at hp
  rw[hget p hp]at h1
  exact Aco hall qn h1
 obtain ⟨w',f1,f2,f3,f4,f5,f6,f7⟩:=Cf P b (i * sz) T fr news 0 cs w e2 e3 qn hones
 obtain ⟨st,inv⟩:=L5 hinv e0 f3 f4 f5 f6 f7
 have hroom:i+(n-j)≤cap:=by omega
 have hcell:∀ p v,cs[p]? = some v→w.cell? ⟨b,p,none⟩=some v:=fun p v hp=>by
  simp[World.cell?,e2,hp]
 have hc:(Builtin.firstCells sz (n-j) (.slice (some (if cap=j then ⟨b,0,none⟩ else ⟨b,j * sz,none⟩)) (n-j) c)).run P w=.ok news.toArray w:=by
  by_cases hcj:cap=j
  ·have h0:n-j=0:=by omega
   rw[if_pos hcj,h0]
   have h1:news=[]:=by rw[h0]at hnl;simpa using hnl
   rw[h1]
   exact run_firstCells_some (P:=P) w sz 0 ⟨b,0,none⟩ 0 c [] qy (fun j v hj=>by simp at hj)
  ·rw[if_neg hcj]
   refine run_firstCells_some (P:=P) w sz (n-j) ⟨b,j * sz,none⟩ (n-j) c news hnl (fun p v hp=>?_)
   rw[Addr.add_lit]
   have hlt:p<(n-j) * sz:=by
    rw[← hnl];exact(List.getElem?_eq_some_iff.1 hp).1
   rw[hget p hlt]at hp
   exact hcell _ _ hp
 have hrun:(execOp a.eval o).run P w=.ok (.value (.slice (some ⟨b,0,none⟩) (i+(n-j)) cap)) w':=by
  simp[execOp,h,resolve,invoke,builtin,Builtin.append_,r1.val,r2.val,run_underlying hu,sizeOf,typeInfo,q1,q2,Builtin.lenOf,hroom,hc,Addr.add_lit,f1]
 simp only[Oper.wp,hrun,Oper.upon]
 refine hN _ κ w' (st.weaken (fun k hk=>by subst hk;simp[Up.ws])) inv (by simp only[Rd]) (fun p hp=>?_)
 simp only[List.mem_singleton]at hp
 subst hp
 refine⟨e0,b,cap,_,T,fr,e0,f2,by rw[Bs];exact e3,by rw[Bs];exact e4,e5,?_⟩
 rintro k z ⟨hk0,rfl⟩
 have hset:=I5 cs news (i * sz+0)
 have hlen:(l.take i++l.drop j).length=i+(n-j):=by rw[List.length_append,List.length_take,List.length_drop];omega
 rw[hlen]at hk0
 by_cases hki:k<i
 ·obtain ⟨_,u,u1,u2,u3,u4⟩:=e6 k (e l[k]) ⟨by omega,rfl⟩
  have:(k+1) * sz≤i * sz:=Nat.mul_le_mul_right sz qn
  rw[Nat.add_mul,Nat.one_mul]at this
  refine⟨by omega,u,?_,u2,u3,fun p hp=>?_⟩
  ·rw[List.getElem_append_left (by rw[List.length_take];omega),List.getElem_take]
   exact RdD.keep st.keeps _ _ u1
  ·rw[hset _ qn,if_neg qn,u4 p hp]
 ·obtain ⟨_,u,u1,u2,u3,u4⟩:=e6 (j+(k-i)) (e l[j+(k-i)]) ⟨by omega,rfl⟩
  have hks:k * sz=i * sz+(k-i) * sz:=by rw[← Nat.add_mul];congr 1;omega
  have hjs:(j+(k-i)) * sz=j * sz+(k-i) * sz:=by rw[← Nat.add_mul]
  have:(k-i+1) * sz≤(n-j) * sz:=Nat.mul_le_mul_right sz qn
  rw[Nat.add_mul,Nat.one_mul]at this
  refine⟨by omega,u,?_,u2,u3,fun p hp=>?_⟩
  ·rw[List.getElem_append_right (by rw[List.length_take];omega),List.getElem_drop]
   have hidx:j+(k-(l.take i).length)=j+(k-i):=by rw[List.length_take];omega
   simp only[hidx]
   exact RdD.keep st.keeps _ _ u1
  ·rw[hset _ qn,if_pos qn,← u4 p hp,hjs]
   rw[show k * sz+p-(i * sz+0)=(k-i) * sz+p by omega,hget _ qn]
   congr 1
   omega
theorem Jj {P:Program} (Γ:Ty P) {o:Oper} {s:SS} (q:Nat) {t:TypeId} {ti:TI} {et:TypeId} {sz eb b n cap k m c:Nat} {ez:List Value} {x:Operand} {α:Type} {e:α→SV} {l:List α} {B:Option Addr}
  (h:o.op=.call ⟨.builtin .clear,#[x],#[t]⟩) (ht:Γ.get t=some ti) (hk:ti.k=.slice et sz eb ez) (hez:ez.length=sz) (hz1:∀ v∈ez,v.oneCell'=true) (hx:ev s x=.val (.slice B m c)) (hB:B=some (if cap=k then ⟨b,0,none⟩ else ⟨b,k * sz,none⟩))
  (hob:s.h q=.pin b n cap sz e l) (hkl:k≤l.length) (hm:k+m≤cap) :
  Good P o s ⟨.tup [],[],[(q,.pin b n cap sz e (l.take k))]⟩:=by
 intro κ a w hinv hr ho N Q hN
 have r1:=hr x (by simp[h,Op.operands,Call.operands])
 rw[hx]at r1
 subst hB
 have hq:=ho q (.inr (by simp[Up.ws]))
 rw[hob]at hq
 obtain ⟨e0,b',cap',cs,T,fr,e1,e2,e3,e4,e5,e6⟩:=hq
 rw[e0]at e1
 cases e1
 obtain ⟨hu,ii,zv,q1,q2,q3,q4,q5⟩:=B1 Γ ht hk
 have hzs:zv.cells.size=sz:=by rw[← hez,← q5];simp
 have hlt:(l.take k).length=k:=by rw[List.length_take];omega
 by_cases hm0:m=0
 ·subst hm0
  have hrun:(execOp a.eval o).run P w=.ok (.value (.tuple #[])) w:=by
   simp[execOp,h,resolve,invoke,builtin,Builtin.clear_,r1.val,run_underlying hu]
  simp only[Oper.wp,hrun,Oper.upon]
  refine hN _ κ w (Step.refl _ κ w) hinv (by simp[Rd,RdL]) (fun p hp=>?_)
  simp only[List.mem_singleton]at hp
  subst hp
  refine⟨e0,b,cap,cs,T,fr,e0,e2,e3,e4,e5,?_⟩
  rintro p z ⟨hp0,rfl⟩
  rw[List.getElem_take]
  exact e6 p (e l[p]) ⟨by omega,E⟩
 obtain ⟨m,rfl⟩:∃ p,m=p+1:=⟨m-1,by omega⟩
 rw[if_neg qn]at r1
 obtain ⟨news,hnews⟩:∃ news,news=(Builtin.zeroCells zv.cells (m+1)).toList:=⟨_,rfl⟩
 have hnl:news.length=(m+1) * sz:=by rw[hnews,Array.length_toList,O9,hzs]
 have hones:Ones news:=fun v hv=>by
  rw[hnews,Array.mem_toList_iff]at hv
  refine hz1 v ?_
  rw[← q5]
  simp only[Builtin.zeroCells,Array.mem_map,Array.mem_range]at hv
  obtain ⟨p,hp,rfl⟩:=hv
  have h0:0<zv.cells.size:=by
   rcases Nat.eq_zero_or_pos zv.cells.size with h | h
   ·rw[h]at hp;simp at hp
   ·exact h
  have hlt2:p % zv.cells.size<zv.cells.size:=Nat.mod_lt _ h0
  rw[getElem!_pos zv.cells _ hlt2]
  exact Array.getElem_mem_toList hlt2
 have hmul:k * sz+(m+1) * sz≤cap * sz:=by rw[← Nat.add_mul];exact Nat.mul_le_mul_right sz hm
 obtain ⟨w',f1,f2,f3,f4,f5,f6,f7⟩:=Cf P b (k * sz) T fr news 0 cs w e2 e3 qn hones
 obtain ⟨st,inv⟩:=L5 hinv e0 f3 f4 f5 f6 f7
 have hrun:(execOp a.eval o).run P w=.ok (.value (.tuple #[])) w':=by
  simp[execOp,h,resolve,invoke,builtin,Builtin.clear_,r1.val,run_underlying hu,zeroValue,typeInfo,q1,q4,← hnews,f1]
 simp only[Oper.wp,hrun,Oper.upon]
 refine hN _ κ w' (st.weaken (fun k hk=>by subst hk;simp[Up.ws])) inv (by simp[Rd,RdL]) (fun p hp=>?_)
 simp only[List.mem_singleton]at hp
 subst hp
 refine⟨e0,b,cap,_,T,fr,e0,f2,by rw[Bs];exact e3,by rw[Bs];exact e4,e5,?_⟩
 rintro p z ⟨hp0,rfl⟩
 have hset:=I5 cs news (k * sz+0)
 obtain ⟨h0,u,u1,u2,u3,u4⟩:=e6 p (e l[p]) ⟨by omega,rfl⟩
 have:(p+1) * sz≤k * sz:=Nat.mul_le_mul_right sz qn
 rw[Nat.add_mul,Nat.one_mul]at this
 refine⟨h0,u,?_,u2,u3,fun j hj=>?_⟩
 ·rw[List.getElem_take]
  exact RdD.keep st.keeps _ _ u1
 ·have hcl:k * sz≤cs.length:=by omega
  rw[hset _ qn,if_neg qn,u4 j hj]
theorem G_dat {C:Cx} {kk:List KI} {s:SS} (i q:Nat) {sz:Nat} {α:Type} {e:α→SV} {l:List α} (h:s.σ i=.sl sz e l) (hl:l≠[])
  (hg:∀ b off cap,l.length≤cap→G C kk ⟨upd s.σ i (.val (.slice (some ⟨b,off,none⟩) l.length cap)),upd s.h q (.dat (.slice (some ⟨b,off,none⟩) l.length cap) sz e l)⟩):G C kk s:=fun κ a w hs=>by
 have h1:=hs.slot i
 rw[h]at h1
 have h1':=h1
 simp only[Rd,RdD]at h1
 rcases h1 with ⟨h2,_⟩ | ⟨b,off,cap,h2,h3,_⟩
 ·exact absurd h2 hl
 ·refine hg b off cap h3 κ a w ⟨hs.defers,hs.size,hs.inv,hs.ctx,fun j=>?_,fun j=>?_⟩
  ·show Rd κ w (upd s.σ i (.val (.slice (some ⟨b,off,none⟩) l.length cap)) j) _
   by_cases hj:j=i
   ·subst hj;rw[Bi];simp only[Rd];exact h2
   ·rw[B0 _ _ hj];exact hs.slot j
  ·show ObOK κ w j (upd s.h q (.dat (.slice (some ⟨b,off,none⟩) l.length cap) sz e l) j)
   by_cases hj:j=q
   ·subst hj;rw[Bi];rw[h2]at h1';exact h1'
   ·rw[B0 _ _ hj];exact hs.obj j
theorem Yy {P:Program} (Γ:Ty P) {o:Oper} {s:SS} {t:TypeId} {ti:TI} {et:TypeId} {sz eb b off n cap hi:Nat} {ez:List Value} {x hx mx:Operand} {k2 k3:IntKind}
  (h:o.op=.slice t x none (some hx) (some mx)) (ht:Γ.get t=some ti) (hk:ti.k=.slice et sz eb ez) (hxe:ev s x=.val (.slice (some ⟨b,off,none⟩) n cap)) (hhi:ev s hx=.val (.int k2 hi)) (hmx:ev s mx=.val (.int k3 hi))
  (h3:hi≤cap):Good P o s ⟨.val (.slice (some ⟨b,off,none⟩) hi hi),[],[]⟩ :=
 Good.pure fun κ a w _ hr _=>by
  have r1:=hr x (by simp[h,Op.operands])
  have r3:=hr hx (by simp[h,Op.operands])
  have r4:=hr mx (by simp[h,Op.operands])
  rw[hxe]at r1
  rw[hhi]at r3
  rw[hmx]at r4
  obtain ⟨hu,i,zv,q1,q2,q3,q4,q5⟩:=B1 Γ ht hk
  have hb:(Instr.sliceBounds true n cap none (some (a.eval hx)) (some (a.eval mx))).run P w=.ok (0,hi,hi) w:=by
   rw[r3.val,r4.val]
   simp[Instr.sliceBounds,Instr.sliceBound,asIntOf,h3]
  refine⟨.slice (some ⟨b,off,none⟩) hi hi,?_,by simp only[Rd]⟩
  by_cases hc:hi=0
  ·subst hc
   simp[execOp,h,r1.val,Instr.sliceAt,Instr.slice,run_underlying hu,hb,sizeOf,typeInfo,q1]
  ·simp[execOp,h,r1.val,Instr.sliceAt,Instr.slice,run_underlying hu,hb,sizeOf,typeInfo,q1,q2,hc,Addr.add_lit]
theorem Y4 {P:Program} (Γ:Ty P) {o:Oper} {s:SS} (q:Nat) {t:TypeId} {ti:TI} {et:TypeId} {sz eb b off n cap:Nat} {ez:List Value} {x y:Operand} {α:Type} {e:α→SV} {l l':List α}
  (h:o.op=.call ⟨.builtin .append,#[x,y],#[t,t]⟩) (ht:Γ.get t=some ti) (hk:ti.k=.slice et sz eb ez) (hez:ez.length=sz) (hx:ev s x=.val (.slice (some ⟨b,off,none⟩) n n))
  (hq:s.h q=.dat (.slice (some ⟨b,off,none⟩) l.length cap) sz e l) (hn:n≤l.length) (hy:ev s y=.sl sz e l') (hbytes:(n+l'.length) * eb≤140737488355328) (h63:n+l'.length≤9223372036854775807) :
  Good P o s ⟨.sl sz e (l.take n++l'),[q],[]⟩:=by
 intro κ a w hinv hr ho N Q hN
 have r1:=hr x (by simp[h,Op.operands,Call.operands])
 have r2:=hr y (by simp[h,Op.operands,Call.operands])
 rw[hx]at r1
 rw[hy]at r2
 have hq1:=ho q (.inl qy)
 rw[hq]at hq1
 have hq1:Rd κ w (.sl sz e l) (.slice (some ⟨b,off,none⟩) l.length cap):=hq1
 obtain ⟨hu,ii,zv,q1,q2,q3,q4,q5⟩:=B1 Γ ht hk
 have hzs:zv.cells.size=sz:=by rw[← hez,← q5];simp
 have htl:(l.take n).length=n:=by rw[List.length_take];omega
 have hbase:Rd κ w (.sl sz e (l.take n)) (.slice (some ⟨b,off,none⟩) n n):=by
  simp only[Rd,RdD]at hq1 ⊢
  rcases hq1 with ⟨h0,_⟩ | ⟨b2,off2,cap2,h2,h3,h4,h5,h6⟩
  ·have hn0:n=0:=by rw[h0]at hn;simpa using hn
   subst hn0
   exact .inl ⟨by simp,_,_,E⟩
  ·cases h2
   refine .inr ⟨b,off,n,by rw[htl],by rw[htl];exact Nat.le_refl _,h4,h5,fun i hi=>?_⟩
   obtain ⟨u,h7,h8⟩:=h6 i qn
   exact⟨u,by rw[List.getElem_take];exact h7,h8⟩
 have hrb:=hbase.src
 have hru:=r2.src
 rw[htl]at hrb
 obtain ⟨m,hm⟩:∃ m,l'.length=m:=⟨_,rfl⟩
 rw[hm]at hru hbytes h63
 generalize hve:a.eval y=u at *
 obtain ⟨ad,c,news,hu2,hnl,hn1,hnc,hng⟩:∃ (a:Option Addr) (c:Nat) (news:List Value),u=.slice a m c∧news.length=m * sz∧Ones news∧(∀ W:World,(∀ p:Addr,p.block<w.heap.size→W.cell? p=w.cell? p)→(Builtin.firstCells sz m u).run P W=.ok news.toArray W) ∧
   (∀ j x,rowF e l' j x→j<m∧∃ q:Value,RdD (Own κ) w x q∧q.cells.size=sz∧Ones q.cells.toList∧∀ l,l<sz→news[j * sz+l]? = q.cells[l]?):=by
  rcases hru with ⟨rfl,hno,a,c,rfl⟩ | ⟨b,o,c,news,rfl,h1,h2,h3,h4⟩
  ·refine⟨a,c,[],E,by simp,by simp[Ones],fun W _=>?_,fun j x h=>absurd h (hno j x)⟩
   cases a<;>simp[Builtin.firstCells,loadCells,loadCellsFrom]
  ·refine⟨some ⟨b,o,none⟩,c,news,E,h1,h2,fun W hW=>?_,fun j x hx=>h4 j x hx⟩
   exact run_firstCells_some (P:=P) W sz m ⟨b,o,none⟩ m c news h1 (fun j q hj=>by
    rw[Addr.add_lit]
    have h5:=h3 j q hj
    rw[hW _ (by exact World.block_lt_of_cell? w _ h5),h5])
 subst hu2
 by_cases hm0:m=0
 ·subst hm0
  have hl':l'=[]:=List.eq_nil_of_length_eq_zero hm
  subst hl'
  have hc:=hnc w (fun _ _=>rfl)
  have hnn:news=[]:=by simpa using hnl
  subst hnn
  have hrun:(execOp a.eval o).run P w=.ok (.value (.slice (some ⟨b,off,none⟩) n n)) w:=by
   simp[execOp,h,resolve,invoke,builtin,Builtin.append_,r1.val,hve,run_underlying hu,sizeOf,typeInfo,q1,q2,Builtin.lenOf,hc,storeCells]
  simp only[Oper.wp,hrun,Oper.upon]
  refine hN _ κ w (Step.refl _ κ w) hinv ?_ (fun p hp=>by cases hp)
  rw[List.append_nil]
  exact hbase
 obtain ⟨olds,hol,hof,hfo⟩:∃ olds:List Value,olds.length=n * sz∧(∀ j x,rowF e (l.take n) j x→j<n→∃ q:Value,RdD (Own κ) w x q∧q.cells.size=sz∧Ones q.cells.toList∧∀ l,l<sz→olds[j * sz+l]? = q.cells[l]?) ∧
   (Builtin.firstCells sz n (.slice (some ⟨b,off,none⟩) n n)).run P w.drew=.ok olds.toArray w.drew:=by
  rcases hrb with ⟨rfl,hno,_⟩ | ⟨b2,o2,c2,olds,he,g1,g2,g3,g4⟩
  ·exact⟨[],by simp,fun j x _ hj=>absurd hj qn,run_firstCells_some (P:=P) w.drew sz 0 ⟨b,off,none⟩ 0 0 [] qy (fun j v hj=>by simp at hj)⟩
  ·cases he
   exact⟨olds,g1,fun j x hx _=>(g4 j x hx).2,run_firstCells_some (P:=P) w.drew sz n ⟨b,off,none⟩ n n olds g1 (fun j v hj=>by
    have:=g3 j v hj
    rw[Addr.add_lit];simpa using this)⟩
 have hcap:n+m≤grownCap w (n+m) n et:=grownCap_ge w (n+m) n et
 have h48:¬ (281474976710656<Builtin.nextslicecap (n+m) n * ii.bytes):=by
  have:=growslice_fits (need:=n+m) (old:=n) (bytes:=ii.bytes) qn (by rw[q3];exact hbytes)
  omega
 have h63':¬ (9223372036854775807<(n:Int)+(m:Int)):=by omega
 have hroom:¬ n+m≤n:=by omega
 have hc:=hnc w.drew (fun _ _=>rfl)
 obtain ⟨w',hw'⟩:∃ w',w.drew.alloc (.cells (olds.toArray++news.toArray++Builtin.zeroCells zv.cells (grownCap w (n+m) n et-(n+m))) et)=w':=⟨_,rfl⟩
 have hrun:(execOp a.eval o).run P w=.ok (.value (.slice (some ⟨w.heap.size,0,none⟩) (n+m) (grownCap w (n+m) n et))) w':=by
  rw[← hw']
  simp[execOp,h,resolve,invoke,builtin,Builtin.append_,r1.val,hve,run_underlying hu,sizeOf,typeInfo,zeroValue,q4,q1,q2,Builtin.lenOf,hm0,h63',h48,Question.forced,hfo,hc,newRow,grownCap]
  rw[if_neg hroom]
  have ea:∀ Z:Array Value,olds.toArray++(news.toArray++Z)=(olds++news).toArray++Z:=fun Z=>by apply Array.ext';simp
  rw[ea]
 have g0:Grew w w':=by rw[← hw'];exact(Grew.drew w).trans (Grew.alloc _ _)
 obtain ⟨st,inv⟩:=Ais hinv g0
 have hblk:w'.heap[w.heap.size]? = some (.cells (olds++news++(Builtin.zeroCells zv.cells (grownCap w (n+m) n et-(n+m))).toList).toArray et):=by
  rw[← hw']
  have:(w.drew.alloc (.cells (olds.toArray++news.toArray++Builtin.zeroCells zv.cells (grownCap w (n+m) n et-(n+m))) et)).heap[w.heap.size]? = some (.cells (olds.toArray++news.toArray++Builtin.zeroCells zv.cells (grownCap w (n+m) n et-(n+m))) et):=heap_alloc_new w.drew _
  rw[this]
  congr 2
  apply Array.ext'
  simp
 have hsz:w.heap.size<w'.heap.size:=by rw[← hw'];simp
 simp only[Oper.wp,hrun,Oper.upon]
 refine hN _ κ w' (st.weaken (fun _ h=>h.elim)) inv ?_ (fun p hp=>by cases hp)
 simp only[Rd,RdD]
 have hlen:(l.take n++l').length=n+m:=by rw[List.length_append,htl,hm]
 refine .inr ⟨w.heap.size,0,grownCap w (n+m) n et,by rw[hlen],by rw[hlen];exact hcap,?_,hsz,fun j hj=>?_⟩
 ·rintro (⟨k,hk⟩ | hk)
  ·exact Nat.lt_irrefl _ (hinv.bnd k _ hk)
  ·exact Nat.lt_irrefl _ (hinv.mbnd _ hk)
 ·rw[hlen]at hj
  by_cases hjn:j<n
  ·obtain ⟨qv,g1,g2,g3,g4⟩:=hof j (e (l.take n)[j]) ⟨by omega,rfl⟩ hjn
   refine⟨qv,by rw[List.getElem_append_left qn];exact RdD.keep st.keeps _ _ g1,g2,g3,fun p hp=>?_⟩
   have:(j+1) * sz≤n * sz:=Nat.mul_le_mul_right sz qn
   rw[Nat.add_mul,Nat.one_mul]at this
   rw[cell_of_row w' _ _ _ et (0,0) hblk,List.getElem?_toArray,List.append_assoc,List.getElem?_append_left qn,Nat.zero_add]
   exact g4 p hp
  ·obtain ⟨_,qv,g1,g2,g3,g4⟩:=hng (j-n) (e (l'[j-n]'qn)) ⟨by omega,rfl⟩
   refine⟨qv,?_,g2,g3,fun p hp=>?_⟩
   ·rw[List.getElem_append_right qn]
    simp only[htl]
    exact RdD.keep st.keeps _ _ g1
   ·have e1:j * sz=n * sz+(j-n) * sz:=by rw[← Nat.add_mul];congr 1;omega
    have:(j-n+1) * sz≤m * sz:=Nat.mul_le_mul_right sz qn
    rw[Nat.add_mul,Nat.one_mul]at this
    rw[cell_of_row w' _ _ _ et (0,0) hblk,List.getElem?_toArray,List.append_assoc,List.getElem?_append_right qn,List.getElem?_append_left qn,← g4 p hp]
    congr 1
    omega
theorem Ve {P:Program} {o:Oper} {s:SS} (q:Nat) {sz:Nat} {α:Type} {e:α→SV} {l:List α} {v:Value} {x:Operand} (h:o.op=.move x∨o.op=.assign x) (hx:ev s x=.val v) (hq:s.h q=.dat v sz e l):Good P o s ⟨.sl sz e l,[q],[]⟩ :=
 Good.pure fun κ a w _ hr ho=>by
  have hq1:=ho q qy
  rw[hq]at hq1
  have hr1:=hr x (by rcases h with h | h<;>simp[h,Op.operands])
  rw[hx]at hr1
  refine⟨a.eval x,?_,?_⟩
  ·rcases h with h | h<;>simp[execOp,h]
  ·rw[hr1.val];exact hq1
theorem Xz {f g:Nat→Option (Nat × Nat)}:∀ (ps:List (Nat × Value)) (cs:Array Value),(∀ p∈ps,f p.1=g p.1)→Instr.fill f cs ps=Instr.fill g cs ps
 | [],cs,_=>rfl
 | (i,v)::ps,cs,h=>by
  have h1:=h (i,v) qy
  simp only[Instr.fill]
  dsimp only at h1
  rw[h1]
  cases g i with
  | none=>rfl
  | some os =>
   dsimp only
   split
   ·rfl
   ·exact Xz ps _ (fun p hp=>h p (by simp[hp]))
theorem Ad6 {P:Program} (Γ:Ty P) {o:Oper} {s:SS} {t et:TypeId} {ti:TI} {len esz:Nat} {ps:List (Nat × Operand)} {out:List SV} (h:o.op=.build t ps.toArray) (ht:Γ.get t=some ti) (hk:ti.k=.array et len esz)
  (h1:U7 ti.zero=true) (hps:(ps.all fun p=>Nat.blt p.1 len)=true) (hf:X0 ((List.range len).map fun i=>(i * esz,esz)) (ti.zero.map .val) (ps.map fun p=>(p.1,ev s p.2))=some out):Good P o s ⟨.agg out,[],[]⟩ :=
 Good.pure fun κ a w _ hr _=>by
  obtain ⟨d,info,z,k1,k2,k3,k4,k5,k6⟩:=Γ.ok t ti ht
  obtain ⟨hu,i,q1,q2⟩:=M2 Γ ht hk
  have hops:∀ p∈ps,Rd κ w (ev s p.2) (a.eval p.2):=fun p hp=>hr p.2 (by
   simp only[h,Op.operands]
   simp only[List.mem_toArray,List.mem_map]
   exact⟨p,hp,E⟩)
  obtain ⟨r,r1,r2,r3⟩:=Abi (κ:=κ) (w:=w) (a:=a) ps _ out z.cells (by rw[k6];exact Tz _) (by rw[k6];exact Mh h1) hops hf
  refine⟨.agg r,?_,?_⟩
  ·have hcg:=Xz (f:=fun i=>some (i * esz,esz)) (g:=fun i=>((List.range len).map fun i=>(i * esz,esz))[i]?) (ps.map fun p=>(p.1,a.eval p.2)) z.cells (fun p hp=>by
    obtain ⟨x,hx,rfl⟩:=List.mem_map.1 hp
    have hlt:x.1<len:=Nat.le_of_ble_eq_true (List.all_eq_true.1 hps x hx)
    dsimp only
    rw[List.getElem?_map,List.getElem?_range hlt]
    rfl)
   simp only[execOp,h,Sem.run_bind,Instr.build,zeroValue,typeInfo,run_program,Result.andThen_ok,k3,k5,Sem.run_pure,run_underlying hu,sizeOf,q1,q2,List.map_toArray]
   rw[hcg,r1]
   simp
  ·simp only[Rd]
   exact⟨r.toList,by simp,r3,r2⟩
mutual
def rnb (k d:Nat):SV→SV
 | .ptr j o=>bif Nat.beq j k then .ptr d o else .ptr j o
 | .agg l=>.agg (Wz k d l)
 | .tup l=>.tup (Wz k d l)
 | .ifc t y=>.ifc t (rnb k d y)
 | .clo f g l=>.clo f (Wz k d g) (Wz k d l)
 | y=>y
def Wz (k d:Nat):List SV→List SV
 | []=>[]
 | y::l=>rnb k d y::Wz k d l
end
mutual
theorem Afm {κ κ':Ka} {w:World} {K:Nat→Prop} {k d:Nat} (st:Step K κ w κ' w) (hx:∀ o v,Rd κ w (.ptr k o) v→Rd κ' w (.ptr d o) v):∀ (y:SV) (v:Value),Rd κ w y v→Rd κ' w (rnb k d y) v
 | .ptr j o,v,h=>by
  unfold rnb
  by_cases hk:j=k
  ·subst hk;rw[show Nat.beq j j=true from Nat.beq_refl j];exact hx o v h
  ·rw[show Nat.beq j k=false from by cases hb:Nat.beq j k with | false=>rfl | true=>exact absurd (Nat.eq_of_beq_eq_true hb) hk];exact Rd.step st _ _ h
 | .agg l,v,h=>by
  simp only[Rd]at h
  unfold rnb
  simp only[Rd]
  obtain ⟨cs,h1,h2,h3⟩:=h
  exact⟨cs,h1,h2,K8 st hx l cs h3⟩
 | .tup l,v,h=>by
  simp only[Rd]at h
  unfold rnb
  simp only[Rd]
  obtain ⟨cs,h1,h3⟩:=h
  exact⟨cs,h1,K8 st hx l cs h3⟩
 | .ifc t y,v,h=>by
  simp only[Rd]at h
  unfold rnb
  simp only[Rd]
  obtain ⟨u,h1,h3⟩:=h
  exact⟨u,h1,Afm st hx y u h3⟩
 | .clo f g l,v,h=>by
  simp only[Rd]at h
  unfold rnb
  simp only[Rd]
  obtain ⟨fs,cs,h1,h2,h3⟩:=h
  exact⟨fs,cs,h1,K8 st hx g fs h2,K8 st hx l cs h3⟩
 | .top,v,h=>by unfold rnb;exact Rd.step st _ _ h
 | .val u,v,h=>by unfold rnb;exact Rd.step st _ _ h
 | .sl sz e l,v,h=>by unfold rnb;exact Rd.step st _ _ h
 | .ref sz z o,v,h=>by unfold rnb;exact Rd.step st _ _ h
 | .rpt k sz i o,v,h=>by unfold rnb;exact Rd.step st _ _ h
 | .osl k,v,h=>by unfold rnb;exact Rd.step st _ _ h
theorem K8 {κ κ':Ka} {w:World} {K:Nat→Prop} {k d:Nat} (st:Step K κ w κ' w) (hx:∀ o v,Rd κ w (.ptr k o) v→Rd κ' w (.ptr d o) v):∀ (l:List SV) (vs:List Value),RdL κ w l vs→RdL κ' w (Wz k d l) vs
 | [],vs,h=>by
  unfold Wz
  simpa [RdL] using h
 | y::l,vs,h=>by
  simp only[RdL]at h
  unfold Wz
  simp only[RdL]
  obtain ⟨v,r,h1,h2,h3⟩:=h
  exact⟨v,r,h1,Afm st hx y v h2,K8 st hx l r h3⟩
end
def rnbO (k d:Nat):Ob→Ob
 | .box l=>.box (Wz k d l)
 | o=>o
theorem Afe {κ:Ka} {w:World} {k d b:Nat} (hi:Inv κ w) (hk:κ k=.blk b) (hd:κ d=.new) :
  Step (fun j=>j=k∨j=d) κ w (C1 (C1 κ k .dead) d (.blk b)) w∧Inv (C1 (C1 κ k .dead) d (.blk b)) w:=by
 have hkd:k≠d:=fun e=>by subst e;rw[hk]at hd;cases hd
 have hkb:(κ k).block? = some b:=by rw[hk];rfl
 have key:∀ j c,((C1 (C1 κ k .dead) d (.blk b)) j).block? = some c→(j=d∧c=b)∨(j≠d∧j≠k∧(κ j).block? = some c):=by
  intro j c h
  by_cases hj:j=d
  ·subst hj;rw[As]at h;exact .inl ⟨rfl,by simpa [Ent.block?] using h.symm⟩
  ·rw[Bq _ _ hj]at h
   by_cases hj2:j=k
   ·subst hj2;rw[As]at h;cases h
   ·rw[Bq _ _ hj2]at h;exact .inr ⟨hj,hj2,h⟩
 refine⟨⟨Nat.le_refl _,E,E,E,E,fun _ _=>rfl,fun _ _ _=>rfl,fun _ _ _ _=>rfl,fun j hj=>?_,?_,?_⟩,⟨?_,?_,?_,fun c h=>hi.mbnd c h⟩⟩
 ·rw[Bq _ _ (fun e=>hj (.inr e)),Bq _ _ (fun e=>hj (.inl e))]
 ·rintro j (rfl | rfl)
  ·exact .inr (.inr (by rw[Bq _ _ hkd,As]))
  ·exact .inl hd
 ·rintro c (⟨j,hj⟩ | hj)
  ·rcases key j c hj with ⟨_,rfl⟩ | ⟨_,_,h⟩
   ·exact .inl (.inl ⟨k,hkb⟩)
   ·exact .inl (.inl ⟨j,h⟩)
  ·exact .inl (.inr hj)
 ·intro i j c h1 h2
  rcases key i c h1 with ⟨a1,a2⟩ | ⟨a1,a2,a3⟩<;>rcases key j c h2 with ⟨b1,b2⟩ | ⟨b1,b2,b3⟩
  ·exact a1.trans b1.symm
  ·subst a2;exact absurd (hi.inj j k _ b3 hkb) b2
  ·subst b2;exact absurd (hi.inj i k _ a3 hkb) a2
  ·exact hi.inj i j c a3 b3
 ·intro j c h
  rcases key j c h with ⟨_,rfl⟩ | ⟨_,_,h⟩
  ·exact hi.bnd k _ hkb
  ·exact hi.bnd j c h
 ·intro j c h
  rcases key j c h with ⟨_,rfl⟩ | ⟨_,_,h⟩
  ·exact hi.apart k _ hkb
  ·exact hi.apart j c h
theorem I4 {C:Cx} {kk:List KI} {s:SS} (k d:Nat) {l:List SV} (h:s.h k=.box l) (hd:s.h d=.fresh) (hkd:k≠d)
  (hg:G C kk ⟨fun i=>rnb k d (s.σ i),upd (fun j=>bif Nat.beq j k then .non else rnbO k d (s.h j)) d (.box (Wz k d l))⟩):G C kk s:=fun κ a w hs=>by
 have hob:=hs.obj k
 rw[h]at hob
 have hnew:κ d=.new:=by have:=hs.obj d;rwa [hd]at this
 obtain ⟨b,cs,T,fr,e1,e2,e3,e4,e5⟩:=hob
 obtain ⟨st,inv⟩:=Afe hs.inv e1 hnew
 have hne:∀ j,j≠k→j≠d→(C1 (C1 κ k .dead) d (.blk b)) j=κ j:=fun j h1 h2=>by rw[Bq _ _ h2,Bq _ _ h1]
 have hv:∀ o v,Rd κ w (.ptr k o) v→Rd (C1 (C1 κ k .dead) d (.blk b)) w (.ptr d o) v:=fun o v hv=>by
  simp only[Rd,e1]at hv
  simp only[Rd,As]
  exact hv
 refine hg _ a w ⟨hs.defers,hs.size,inv,hs.ctx.step inv st,fun j=>Afm st hv _ _ (hs.slot j),fun j=>?_⟩
 show ObOK _ w j (upd (fun j=>bif Nat.beq j k then .non else rnbO k d (s.h j)) d (.box (Wz k d l)) j)
 by_cases hj:j=d
 ·subst hj
  rw[Bi]
  exact⟨b,cs,T,fr,As _ _ _,e2,e3,e4,K8 st hv l cs e5⟩
 ·rw[B0 _ _ hj]
  by_cases hj2:j=k
  ·subst hj2;rw[show Nat.beq j j=true from Nat.beq_refl j];trivial
  ·rw[show Nat.beq j k=false from by cases hb:Nat.beq j k with | false=>rfl | true=>exact absurd (Nat.eq_of_beq_eq_true hb) hj2]
   have hb:=ObOK.step st (fun e=>e.elim hj2 hj) _ (hs.obj j)
   have h0:=hs.obj j
   show ObOK _ w j (rnbO k d (s.h j))
   cases hh:s.h j with
   | box m =>
    rw[hh]at h0 hb
    obtain ⟨b2,cs2,T2,fr2,f1,f2,f3,f4,f5⟩:=h0
    exact⟨b2,cs2,T2,fr2,(hne j hj2 hj).trans f1,f2,f3,f4,K8 st hv m cs2 f5⟩
   | fresh=>rw[hh]at hb;exact hb
   | non=>rw[hh]at hb;exact hb
   | row sz' e' l'=>rw[hh]at hb;exact hb
   | lit sz' svs=>rw[hh]at hb;exact hb
   | glob sz' x' g'=>rw[hh]at hb;exact hb
   | pin b' n' cap' sz' e' l'=>rw[hh]at hb;exact hb
   | dat v' sz' e' l'=>rw[hh]at hb;exact hb
end Go.Sy
namespace Go.Sy.YteinjapglfkamaaGreat
open Go.Proofs
attribute [local irreducible] Go.Sy.G Go.Sy.DR
set_option maxRecDepth 100000
set_option maxHeartbeats 4000000
def udpU (b:List UInt8):Nat→List SV
 | 0=>[Aa 0,Aa 0,Aa 0,Aa 0]
 | 1=>[Aa (numAt b 0 2),Aa 0,Aa 0,Aa 0]
 | 2=>[Aa (numAt b 0 2),Aa (numAt b 2 2),Aa 0,Aa 0]
 | 3=>[Aa (numAt b 0 2),Aa (numAt b 2 2),Aa (numAt b 4 2),Aa 0]
 | _=>[Aa (numAt b 0 2),Aa (numAt b 2 2),Aa (numAt b 4 2),Aa (numAt b 6 2)]
theorem Ak6 (b:List UInt8) (hb:b.length<100000):Sy.Spec Tryz.prog 381 [.sl 1 Ao b] [] (.tup [Aa (udpTakeT b).1,Aa (udpTakeT b).2.1,.sl 1 Ao (udpTakeT b).2.2.1,Aa (udpTakeT b).2.2.2]) []:=Ab Γ hm 100 F381 Tryz.ntmps381 rfl fun F hF=>by
 have hres:=udpTakeT.eq_1 b
 generalize udpTakeT b=res at *
 conv=>whnf
 refine⟨fun h=>?_,fun h=>?_⟩
 ·rw[if_pos (by have:=of_decide_eq_true h;omega)]at hres
  subst hres
  refine rg ?_;conv=>whnf
  refine Ap 4 1 Ao E ?_
  exact Ac E (.cons .tmp (.cons .tmp (.cons .tmp (.cons .tmp .nil)))) E E
 have h8:8≤b.length:=by have:=of_decide_eq_false h;omega
 rw[if_neg qn]at hres
 clear h
 have hp0:=Er (b[0]'qn) (b[1]'qn)
 rw[← Qq (show 0+2≤b.length by omega)]at hp0
 have hp1:=Er (b[2]'qn) (b[3]'qn)
 rw[← Qq (show 2+2≤b.length by omega)]at hp1
 have hp2:=Er (b[4]'qn) (b[5]'qn)
 rw[← Qq (show 4+2≤b.length by omega)]at hp2
 have hp3:=Er (b[6]'qn) (b[7]'qn)
 rw[← Qq (show 6+2≤b.length by omega)]at hp3
 refine rg ?_;conv=>whnf
 refine Aw 4 (fun j=>[(0,.sl 1 Ao b),(6,.ptr 6 0),(11,Aa j)]) (fun j=>[(6,.box (udpU b j))]) [] ⟨⟨E,E,E,E,E,E,Y⟩,⟨.inl E,E,Y⟩,E,E⟩ ?_
 intro j hj
 have hcase:j=0∨j=1∨j=2∨j=3∨j=4:=by omega
 rcases hcase with rfl | rfl | rfl | rfl | rfl
 ·(refine rg ?_;(conv=>whnf);refine aT ?_;refine rg ?_;conv=>whnf)
  refine⟨by unfold I64;omega,?_⟩
  conv=>whnf
  refine⟨E,by omega,by omega,?_⟩
  conv=>whnf
  refine⟨by decide,?_⟩
  conv=>whnf
  refine⟨by unfold I64;omega,?_⟩
  conv=>whnf
  refine⟨by unfold I64;omega,?_⟩
  conv=>whnf
  refine⟨E,by omega,by omega,?_⟩
  conv=>whnf
  refine⟨by decide,by decide,?_⟩
  conv=>whnf
  refine⟨qq,?_⟩
  conv=>whnf
  refine⟨by unfold I64;omega,?_⟩
  conv=>whnf
  exact Ar [] qx ⟨⟨E,E,E,E,E,E,Y⟩,⟨.inl (congrArg (fun z:Int=>Ob.box [Aa z,Aa 0,Aa 0,Aa 0]) hp0.symm),E,Y⟩,E,E⟩
 ·(refine rg ?_;(conv=>whnf);refine aT ?_;refine rg ?_;conv=>whnf)
  refine⟨by unfold I64;omega,?_⟩
  conv=>whnf
  refine⟨E,by omega,by omega,?_⟩
  conv=>whnf
  refine⟨by decide,?_⟩
  conv=>whnf
  refine⟨by unfold I64;omega,?_⟩
  conv=>whnf
  refine⟨by unfold I64;omega,?_⟩
  conv=>whnf
  refine⟨E,by omega,by omega,?_⟩
  conv=>whnf
  refine⟨by decide,by decide,?_⟩
  conv=>whnf
  refine⟨qq,?_⟩
  conv=>whnf
  refine⟨by unfold I64;omega,?_⟩
  conv=>whnf
  exact Ar [] qx ⟨⟨E,E,E,E,E,E,Y⟩,⟨.inl (congrArg (fun z:Int=>Ob.box [Aa (numAt b 0 2),Aa z,Aa 0,Aa 0]) hp1.symm),E,Y⟩,E,E⟩
 ·(refine rg ?_;(conv=>whnf);refine aT ?_;refine rg ?_;conv=>whnf)
  refine⟨by unfold I64;omega,?_⟩
  conv=>whnf
  refine⟨E,by omega,by omega,?_⟩
  conv=>whnf
  refine⟨by decide,?_⟩
  conv=>whnf
  refine⟨by unfold I64;omega,?_⟩
  conv=>whnf
  refine⟨by unfold I64;omega,?_⟩
  conv=>whnf
  refine⟨E,by omega,by omega,?_⟩
  conv=>whnf
  refine⟨by decide,by decide,?_⟩
  conv=>whnf
  refine⟨qq,?_⟩
  conv=>whnf
  refine⟨by unfold I64;omega,?_⟩
  conv=>whnf
  exact Ar [] qx ⟨⟨E,E,E,E,E,E,Y⟩,⟨.inl (congrArg (fun z:Int=>Ob.box [Aa (numAt b 0 2),Aa (numAt b 2 2),Aa z,Aa 0]) hp2.symm),E,Y⟩,E,E⟩
 ·(refine rg ?_;(conv=>whnf);refine aT ?_;refine rg ?_;conv=>whnf)
  refine⟨by unfold I64;omega,?_⟩
  conv=>whnf
  refine⟨E,by omega,by omega,?_⟩
  conv=>whnf
  refine⟨by decide,?_⟩
  conv=>whnf
  refine⟨by unfold I64;omega,?_⟩
  conv=>whnf
  refine⟨by unfold I64;omega,?_⟩
  conv=>whnf
  refine⟨E,by omega,by omega,?_⟩
  conv=>whnf
  refine⟨by decide,by decide,?_⟩
  conv=>whnf
  refine⟨qq,?_⟩
  conv=>whnf
  refine⟨by unfold I64;omega,?_⟩
  conv=>whnf
  exact Ar [] qx ⟨⟨E,E,E,E,E,E,Y⟩,⟨.inl (congrArg (fun z:Int=>Ob.box [Aa (numAt b 0 2),Aa (numAt b 2 2),Aa (numAt b 4 2),Aa z]) hp3.symm),E,Y⟩,E,E⟩
 clear hp0 hp1 hp2 hp3
 (refine rg ?_;(conv=>whnf);refine aF ?_;refine rg ?_;conv=>whnf)
 refine⟨by decide,by decide,?_⟩
 conv=>whnf
 refine⟨fun h=>?_,fun h=>?_⟩
 ·rw[if_pos (by have:=of_decide_eq_true h;omega)]at hres
  subst hres
  refine rg ?_;conv=>whnf
  refine Ap 4 1 Ao E ?_
  exact Ac E (.cons .tmp (.cons .tmp (.cons .tmp (.cons .tmp .nil)))) E E
 have hs8:8≤numAt b 4 2:=by have:=of_decide_eq_false h;omega
 rw[if_neg qn]at hres
 clear h
 refine rg ?_;conv=>whnf
 refine⟨by decide,by decide,?_⟩
 conv=>whnf
 refine⟨fun h=>?_,fun h=>?_⟩
 ·rw[if_pos (by have:=of_decide_eq_true h;omega)]at hres
  subst hres
  refine rg ?_;conv=>whnf
  refine Ap 4 1 Ao E ?_
  exact Ac E (.cons .tmp (.cons .tmp (.cons .tmp (.cons .tmp .nil)))) E E
 have hsl:numAt b 4 2≤b.length:=by have:=of_decide_eq_false h;omega
 rw[if_neg qn]at hres
 clear h
 refine rg ?_;conv=>whnf
 refine⟨by decide,by decide,?_⟩
 conv=>whnf
 refine⟨fun h=>?_,fun h=>?_⟩
 ·rw[if_pos (by have:(numAt b 6 2:Int)≠0:=(by simpa using h);omega)]at hres
  subst hres
  refine rg ?_;conv=>whnf
  refine Ap 4 1 Ao E ?_
  exact Ac E (.cons .tmp (.cons .tmp (.cons .tmp (.cons .tmp .nil)))) E E
 rw[if_neg (by have:(numAt b 6 2:Int)=0:=(by simpa using h);omega)]at hres
 subst hres
 clear h
 have qc:=Lr ((b.take (numAt b 4 2)).drop 8) (by rw[List.length_drop,List.length_take];omega)
 refine rg ?_;conv=>whnf
 refine⟨by decide,by decide,?_⟩
 conv=>whnf
 refine⟨by decide,by decide,?_⟩
 conv=>whnf
 refine⟨by decide,by decide,?_⟩
 conv=>whnf
 refine Bn (Cm (lo:=8) (hi:=numAt b 4 2) Γ.toTy E E E E (.inr ⟨_,_,E,E⟩) (.inr ⟨_,_,E,E⟩) hs8 hsl) qq E ?_
 refine rd qq ?_;conv=>whnf
 refine Aq qc F290 E E E qq E ?_
 refine rd qq ?_;conv=>whnf
 refine⟨qq,?_⟩
 conv=>whnf
 exact Ac E (.cons .tmp (.cons .tmp (.cons .tmp (.cons .tmp .nil)))) E E
theorem An5 (src dst:Nat) (body:List UInt8) (h1:src≤65535) (h2:dst≤65535) (h3:body.length≤1472):Sy.Spec Tryz.prog 351 [Aa src,Aa dst,.sl 1 Ao body] [] (.tup [.sl 1 Ao (Ak7 src dst body),Aa 0]) []:=Ab Γ hm 100 F351 Tryz.ntmps351 rfl fun F hF=>by
 ((conv=>whnf);refine aF ?_;refine rg ?_;conv=>whnf)
 (refine⟨fun h=>False.elim (by simp at h;omega),fun _=>?_⟩;refine rg ?_;(conv=>whnf);refine aF ?_;refine rg ?_;(conv=>whnf);refine⟨fun h=>False.elim (by simp at h;omega),fun _=>?_⟩;refine rg ?_;(conv=>whnf);refine⟨fun h=>False.elim (by simp at h;omega),fun _=>?_⟩;refine rg ?_;conv=>whnf)
 refine⟨by unfold I64;omega,?_⟩
 conv=>whnf
 refine B7 8 1000 1 Ao E E ?_
 refine Ai (Ad6 Γ.toTy E E E E E E) E E ?_
 refine rg ?_;conv=>whnf
 have key:∀ (x:Nat) (pre:List Nat),pre.length≤4→C8 (pre++[x])=C8 pre++[UInt8.ofNat (x / 256),UInt8.ofNat x]:=fun x pre _=>Id pre x
 have hwl:∀ l:List Nat,(C8 l).length=2 * l.length:=Jx
 obtain ⟨ws,hws⟩:∃ ws:List Nat,ws=[src,dst,8+body.length,0]:=⟨_,rfl⟩
 refine Aw 4 (fun j=>[(2,.sl 1 Ao body),(8,.osl 1000),(35,.agg [Aa src,Aa dst,Aa (8+body.length:Nat),Aa 0]),(36,Aa j)]) (fun j=>[(1000,.row 1 Ao (C8 (ws.take j)))]) [] ⟨⟨E,E,E,E,E,E,E,E,Y⟩,⟨.inl (congrArg (Ob.row 1 Ao) (by simp[C8])),E,Y⟩,E,E⟩ ?_
 intro j hj
 have hcase:j=0∨j=1∨j=2∨j=3∨j=4:=by omega
 rcases hcase with rfl | rfl | rfl | rfl | rfl
 ·have hs:C8 (ws.take 1)=C8 (ws.take 0)++[UInt8.ofNat (src / 256),UInt8.ofNat src]:=by subst hws;exact Id [] src
  have hl:=hwl (ws.take 0)
  have hl2:(ws.take 0).length≤4:=by rw[List.length_take];omega
  have htb:=Em src
  (refine rg ?_;(conv=>whnf);refine aT ?_;refine rg ?_;conv=>whnf)
  refine Ai (Ha (k:=.int .i64) Γ.toTy E E E Tryz.underlying3 E E qx qx E) E E ?_
  refine rg ?_;conv=>whnf
  refine⟨by decide,?_⟩
  conv=>whnf
  refine Ai (Am Γ.toTy 46 E E E E E (.row E) (.lit (e:=Ao) (l:=[UInt8.ofNat (src / 256),UInt8.ofNat src]) E htb) qy (by rw[hl];simp only[List.length_cons,List.length_nil];omega) (by rw[hl];simp only[List.length_cons,List.length_nil];omega)) E E ?_
  refine rg ?_;conv=>whnf
  refine⟨by unfold I64;omega,?_⟩
  conv=>whnf
  exact Ar [(1000,46)] qx ⟨⟨E,E,E,E,E,E,E,E,Y⟩,⟨.inl (congrArg (Ob.row 1 Ao) hs),E,Y⟩,E,E⟩
 ·have hs:C8 (ws.take 2)=C8 (ws.take 1)++[UInt8.ofNat (dst / 256),UInt8.ofNat dst]:=by subst hws;exact Id [src] dst
  have hl:=hwl (ws.take 1)
  have hl2:(ws.take 1).length≤4:=by rw[List.length_take];omega
  have htb:=Em dst
  (refine rg ?_;(conv=>whnf);refine aT ?_;refine rg ?_;conv=>whnf)
  refine Ai (Ha (k:=.int .i64) Γ.toTy E E E Tryz.underlying3 E E qx qx E) E E ?_
  refine rg ?_;conv=>whnf
  refine⟨by decide,?_⟩
  conv=>whnf
  refine Ai (Am Γ.toTy 46 E E E E E (.row E) (.lit (e:=Ao) (l:=[UInt8.ofNat (dst / 256),UInt8.ofNat dst]) E htb) qy (by rw[hl];simp only[List.length_cons,List.length_nil];omega) (by rw[hl];simp only[List.length_cons,List.length_nil];omega)) E E ?_
  refine rg ?_;conv=>whnf
  refine⟨by unfold I64;omega,?_⟩
  conv=>whnf
  exact Ar [(1000,46)] qx ⟨⟨E,E,E,E,E,E,E,E,Y⟩,⟨.inl (congrArg (Ob.row 1 Ao) hs),E,Y⟩,E,E⟩
 ·have hs:C8 (ws.take 3)=C8 (ws.take 2)++[UInt8.ofNat ((8+body.length) / 256),UInt8.ofNat (8+body.length)]:=by subst hws;exact Id [src,dst] (8+body.length)
  have hl:=hwl (ws.take 2)
  have hl2:(ws.take 2).length≤4:=by rw[List.length_take];omega
  have htb:=Em (8+body.length)
  (refine rg ?_;(conv=>whnf);refine aT ?_;refine rg ?_;conv=>whnf)
  refine Ai (Ha (k:=.int .i64) Γ.toTy E E E Tryz.underlying3 E E qx qx E) E E ?_
  refine rg ?_;conv=>whnf
  refine⟨by decide,?_⟩
  conv=>whnf
  refine Ai (Am Γ.toTy 46 E E E E E (.row E) (.lit (e:=Ao) (l:=[UInt8.ofNat ((8+body.length) / 256),UInt8.ofNat (8+body.length)]) E htb) qy (by rw[hl];simp only[List.length_cons,List.length_nil];omega) (by rw[hl];simp only[List.length_cons,List.length_nil];omega)) E E ?_
  refine rg ?_;conv=>whnf
  refine⟨by unfold I64;omega,?_⟩
  conv=>whnf
  exact Ar [(1000,46)] qx ⟨⟨E,E,E,E,E,E,E,E,Y⟩,⟨.inl (congrArg (Ob.row 1 Ao) hs),E,Y⟩,E,E⟩
 ·have hs:C8 (ws.take 4)=C8 (ws.take 3)++[UInt8.ofNat (0 / 256),UInt8.ofNat 0]:=by subst hws;exact Id [src,dst,8+body.length] 0
  have hl:=hwl (ws.take 3)
  have hl2:(ws.take 3).length≤4:=by rw[List.length_take];omega
  have htb:=Em 0
  (refine rg ?_;(conv=>whnf);refine aT ?_;refine rg ?_;conv=>whnf)
  refine Ai (Ha (k:=.int .i64) Γ.toTy E E E Tryz.underlying3 E E qx qx E) E E ?_
  refine rg ?_;conv=>whnf
  refine⟨by decide,?_⟩
  conv=>whnf
  refine Ai (Am Γ.toTy 46 E E E E E (.row E) (.lit (e:=Ao) (l:=[UInt8.ofNat (0 / 256),UInt8.ofNat 0]) E htb) qy (by rw[hl];simp only[List.length_cons,List.length_nil];omega) (by rw[hl];simp only[List.length_cons,List.length_nil];omega)) E E ?_
  refine rg ?_;conv=>whnf
  refine⟨by unfold I64;omega,?_⟩
  conv=>whnf
  exact Ar [(1000,46)] qx ⟨⟨E,E,E,E,E,E,E,E,Y⟩,⟨.inl (congrArg (Ob.row 1 Ao) hs),E,Y⟩,E,E⟩
 have hl:=hwl (ws.take 4)
 have e:ws.take 4=[src,dst,8+body.length,0]:=by rw[hws];rfl
 rw[e]at hl ⊢
 have hl3:(C8 [src,dst,8+body.length,0]).length=8:=hl
 (refine rg ?_;(conv=>whnf);refine aF ?_;refine rg ?_;conv=>whnf)
 refine Ai (Am Γ.toTy 50 E E E E E (.row E) .sl qy (by rw[hl3];simp;omega) (by rw[hl3];omega)) E E ?_
 refine Au 50 E ?_
 refine rg ?_;conv=>whnf
 exact Ac E (.cons .tmp (.cons .tmp .nil)) E E
theorem Ak8 (a b:Nat) (ha:a<18446744073709551616) (hb:b<18446744073709551616):Sy.Spec Tryz.prog 352 [Bf a,Bf b] [] (Aa (udpPort a b:Nat)) []:=Ab Γ hm 100 F352 Tryz.ntmps352 rfl fun F hF=>by
 have hx:=bits_xor_u64_nat a b ha hb
 have hmd:((a ^^^ b:Nat):Int).tmod 16384=(((a ^^^ b) % 16384:Nat):Int):=by rw[Int.tmod_eq_emod_of_nonneg qn];omega
 have hl:=Nat.mod_lt (a ^^^ b) (show 0<16384 by decide)
 have hw:IntKind.i64.wrap (((a ^^^ b) % 16384:Nat):Int)=(((a ^^^ b) % 16384:Nat):Int):=by rw[IntKind.wrap_i64];omega
 conv=>whnf
 refine⟨by decide,?_⟩
 rw[hx,hmd]
 conv=>whnf
 rw[hw]
 refine⟨by unfold I64;omega,?_⟩
 conv=>whnf
 refine Ac E (.cons .tmp .nil) ?_ E
 refine congrArg (fun z:Int=>SV.val (.int .i64 z)) ?_
 rw[udpPort]
 omega
theorem Ah4 (v:Int) (h:T5 v=true):Sy.Spec Tryz.prog 350 [Aa v] [] (.tup [.sl 1 Ao [],Aa 17]) []:=Ab Γ hm 100 F350 Tryz.ntmps350 rfl fun F hF=>by
 simp only[T5,Bool.or_eq_true,decide_eq_true_eq]at h
 conv=>whnf
 refine⟨fun h1=>?_,fun h1=>?_⟩
 ·(refine rg ?_;(conv=>whnf);refine aT ?_;refine rg ?_;conv=>whnf)
  refine Ap 2 1 Ao E ?_
  exact Ac E (.cons .tmp (.cons .tmp .nil)) E E
 refine rg ?_;conv=>whnf
 refine⟨fun h2=>?_,fun h2=>absurd (of_decide_eq_false h2) (by have:=of_decide_eq_false h1;omega)⟩
 refine rg ?_;conv=>whnf
 refine Ap 2 1 Ao E ?_
 exact Ac E (.cons .tmp (.cons .tmp .nil)) E E
theorem Ak2 {v:Int} (h:T5 v=false):1≤v∧v≤16777215:=by
 simp only[T5,Bool.or_eq_false_iff,decide_eq_false_iff_not]at h
 omega
theorem Aj7 (k:Nat):(Ly k).map Ao=[SV.val (.int .u8 8),SV.val (.int .u8 0),SV.val (.int .u8 0),SV.val (.int .u8 0),SV.val (.int .u8 (IntKind.u8.wrap ((k:Int).fdiv (2 ^ (min (Int.toNat 16) IntKind.i64.bits))))),
  SV.val (.int .u8 (IntKind.u8.wrap ((k:Int).fdiv (2 ^ (min (Int.toNat 8) IntKind.i64.bits))))),SV.val (.int .u8 (IntKind.u8.wrap (k:Int))),SV.val (.int .u8 0)]:=by
 have h1:IntKind.u8.wrap ((k:Int).fdiv (2 ^ (min (Int.toNat 16) IntKind.i64.bits)))=((UInt8.ofNat (k / 65536)).toNat:Int):=by
  show IntKind.u8.wrap ((k:Int).fdiv 65536)=_
  rw[Int.fdiv_eq_ediv_of_nonneg _ qx,IntKind.wrap_u8]
  simp
 have h2:IntKind.u8.wrap ((k:Int).fdiv (2 ^ (min (Int.toNat 8) IntKind.i64.bits)))=((UInt8.ofNat (k / 256)).toNat:Int):=by
  show IntKind.u8.wrap ((k:Int).fdiv 256)=_
  rw[Int.fdiv_eq_ediv_of_nonneg _ qx,IntKind.wrap_u8]
  simp
 have h3:=u8_of k
 rw[h1,h2,h3]
 rfl
theorem Amy (k:Nat) (h:1≤k∧k≤16777215):Sy.Spec Tryz.prog 350 [Aa k] [] (.tup [.osl 0,Aa 0]) [(0,.row 1 Ao (Ly k))]:=Ab Γ hm 100 F350 Tryz.ntmps350 rfl fun F hF=>by
 have hl:=Aj7 k
 conv=>whnf
 refine⟨fun h1=>absurd (of_decide_eq_true h1) qn,fun _=>?_⟩
 refine rg ?_;conv=>whnf
 refine⟨fun h1=>absurd (of_decide_eq_true h1) qn,fun _=>?_⟩
 refine rg ?_;conv=>whnf
 refine⟨by decide,?_⟩
 conv=>whnf
 refine⟨by decide,?_⟩
 conv=>whnf
 refine Iq 18 Ao (Ly k) E hl ?_
 exact done E (.cons .tmp (.cons .tmp .nil)) [(0,18)] [(0,.row 1 Ao (Ly k))] (fun _ h=>h) E E ⟨Y,⟨.inl E,E,Y⟩,E,E⟩
theorem Akn (a b:List UInt8):((⟨a.toArray⟩:ByteArray) == (⟨b.toArray⟩:ByteArray))=decide (a=b):=by
 have key:=Go.MapKept.bytes_beq (⟨a.toArray⟩:ByteArray) ⟨b.toArray⟩
 by_cases h:a=b
 ·subst h
  rw[decide_eq_true rfl]
  exact key.2 E
 ·rw[decide_eq_false h]
  cases hb:((⟨a.toArray⟩:ByteArray) == (⟨b.toArray⟩:ByteArray)) with
  | false=>rfl
  | true =>
   have:=congrArg (fun z:ByteArray=>z.data.toList) (key.1 hb)
   exact absurd (by simpa using this) h
theorem Ala (x y z:UInt8):bits .or .i64 (bits .or .i64 (IntKind.i64.wrap ((IntKind.i64.wrap (x.toNat:Int)) * 2 ^ min (Int.toNat 16) IntKind.i64.bits)) (IntKind.i64.wrap ((IntKind.i64.wrap (y.toNat:Int)) * 2 ^ min (Int.toNat 8) IntKind.i64.bits))) (IntKind.i64.wrap (z.toNat:Int))
  = (((x.toNat * 256+y.toNat) * 256+z.toNat:Nat):Int):=by
 have h1:=x.toNat_lt
 have h2:=y.toNat_lt
 have h3:=z.toNat_lt
 have e1:IntKind.i64.wrap (x.toNat:Int)=(x.toNat:Int):=by rw[IntKind.wrap_i64];omega
 have e2:IntKind.i64.wrap (y.toNat:Int)=(y.toNat:Int):=by rw[IntKind.wrap_i64];omega
 have e3:IntKind.i64.wrap (z.toNat:Int)=(z.toNat:Int):=by rw[IntKind.wrap_i64];omega
 rw[e1,e2,e3]
 have f1:IntKind.i64.wrap ((x.toNat:Int) * 2 ^ min (Int.toNat 16) IntKind.i64.bits)=((x.toNat * 65536:Nat):Int):=by
  show IntKind.i64.wrap ((x.toNat:Int) * 65536)=_
  rw[IntKind.wrap_i64]
  omega
 have f2:IntKind.i64.wrap ((y.toNat:Int) * 2 ^ min (Int.toNat 8) IntKind.i64.bits)=((y.toNat * 256:Nat):Int):=by
  show IntKind.i64.wrap ((y.toNat:Int) * 256)=_
  rw[IntKind.wrap_i64]
  omega
 rw[f1,f2,Dc _ _ qn qn]
 have g1:x.toNat * 65536 ||| y.toNat * 256=x.toNat * 65536+y.toNat * 256:=by
  have h:=Nat.two_pow_add_eq_or_of_lt (i:=16) (b:=y.toNat * 256) qn x.toNat
  rw[Nat.mul_comm x.toNat 65536]
  exact h.symm
 rw[g1,Dc _ _ qn qn]
 refine congrArg (fun n:Nat=>(n:Int)) ?_
 have h:256 * (x.toNat * 256+y.toNat)+z.toNat=256 * (x.toNat * 256+y.toNat) ||| z.toNat:=Nat.two_pow_add_eq_or_of_lt (i:=8) (b:=z.toNat) qn (x.toNat * 256+y.toNat)
 have e:x.toNat * 65536+y.toNat * 256=256 * (x.toNat * 256+y.toNat):=by omega
 rw[e,← h]
 omega
theorem vniS (b:List UInt8) (hb:b.length<100000):Sy.Spec Tryz.prog 382 [.sl 1 Ao b] [] (.tup [Aa (vniT b).1,.sl 1 Ao (vniT b).2.1,Aa (vniT b).2.2]) []:=Ab Γ hm 100 F382 Tryz.ntmps382 rfl fun F hF=>by
 have hres:=vniT.eq_1 b
 generalize vniT b=res at *
 conv=>whnf
 refine⟨fun h=>?_,fun h=>?_⟩
 ·rw[if_pos (by have:=of_decide_eq_true h;omega)]at hres
  subst hres
  refine rg ?_;conv=>whnf
  refine Ap 3 1 Ao E ?_
  exact Ac E (.cons .tmp (.cons .tmp (.cons .tmp .nil))) E E
 have h8:8≤b.length:=by have:=of_decide_eq_false h;omega
 rw[if_neg qn]at hres
 clear h
 have i4:(4:Int).toNat<b.length:=by show 4<_;omega
 have i5:(5:Int).toNat<b.length:=by show 5<_;omega
 have i6:(6:Int).toNat<b.length:=by show 6<_;omega
 have hv:bits .or .i64 (bits .or .i64 (IntKind.i64.wrap ((IntKind.i64.wrap ((b[(4:Int).toNat]'i4).toNat:Int)) * 2 ^ min (Int.toNat 16) IntKind.i64.bits)) (IntKind.i64.wrap ((IntKind.i64.wrap ((b[(5:Int).toNat]'i5).toNat:Int)) * 2 ^ min (Int.toNat 8) IntKind.i64.bits))) (IntKind.i64.wrap ((b[(6:Int).toNat]'i6).toNat:Int))
   = (numAt b 4 3:Int):=by
  rw[Ala,numAt3 (show 4+3≤b.length by omega)]
  rfl
 have hvl:=Kk b 4 3
 refine rg ?_;conv=>whnf
 refine⟨E,by decide,i4,?_⟩
 conv=>whnf
 refine⟨by decide,?_⟩
 conv=>whnf
 refine⟨E,by decide,i5,?_⟩
 conv=>whnf
 refine⟨by decide,?_⟩
 conv=>whnf
 refine⟨E,by decide,i6,?_⟩
 conv=>whnf
 refine⟨qq,?_⟩
 rw[hv]
 generalize hvv:numAt b 4 3=v at *
 conv=>whnf
 by_cases h0:v=0
 ·rw[if_pos (.inl h0)]at hres
  subst hres
  have q:=Ah4 v (by rw[h0];decide)
  refine Ag q F350 E E E E E ?_
  (refine rg ?_;(conv=>whnf);refine aT ?_;refine rd qq ?_;conv=>whnf)
  refine⟨qq,?_⟩
  ((conv=>whnf);refine aT ?_;refine rg ?_;conv=>whnf)
  refine Ap 3 1 Ao E ?_
  exact Ac E (.cons .tmp (.cons .tmp (.cons .tmp .nil))) E E
 have q:=Amy v qn
 refine Ai (Ak [(0,55)] E F350 q E Y E ⟨.inr E,Y⟩) E E ?_
 refine Au 55 E ?_
 (refine rg ?_;(conv=>whnf);refine aF ?_;refine rd qq ?_;conv=>whnf)
 refine Bn (Tb Γ.toTy (bs:=Ly v) E E E E E E E .sl) qq E ?_
 refine rd qq ?_;conv=>whnf
 refine Bn (Cm (lo:=0) (hi:=8) Γ.toTy E E E E (.inl ⟨E,E⟩) (.inr ⟨_,_,E,E⟩) qn h8) qq E ?_
 refine rd qq ?_;conv=>whnf
 refine Bn (Tb Γ.toTy (bs:=b.take 8) E E E E E E E .sl) qq E ?_
 refine rd qq ?_;conv=>whnf
 refine⟨qq,?_⟩
 conv=>whnf
 have hbe:=Akn (Ly v) (b.take 8)
 rw[hbe]
 by_cases he:b.take 8=Ly v
 rotate_left
 ·rw[if_pos (.inr he)]at hres
  subst hres
  rw[decide_eq_false (fun e=>he e.symm)]
  refine⟨fun _=>?_,fun h=>absurd h qx⟩
  refine rg ?_;conv=>whnf
  refine Ap 3 1 Ao E ?_
  exact Ac E (.cons .tmp (.cons .tmp (.cons .tmp .nil))) E E
 rw[if_neg (fun h=>h.elim h0 (fun h2=>h2 he))]at hres
 subst hres
 rw[decide_eq_true he.symm]
 have etk:(b.take b.length).drop 8=b.drop 8:=by rw[List.take_length]
 refine⟨fun h=>absurd h qx,fun _=>?_⟩
 refine rg ?_;conv=>whnf
 refine Ai (Cm (lo:=8) (hi:=b.length) Γ.toTy E E E E (.inr ⟨_,_,E,E⟩) (.inl ⟨E,E⟩) h8 (Nat.le_refl _)) E E ?_
 refine rg ?_;conv=>whnf
 refine Ai (Am Γ.toTy 45 E E E E E .nil .sl qy (by simp;omega) (by simp;omega)) E E ?_
 refine Au 45 E ?_
 refine rg ?_;conv=>whnf
 refine Ac E (.cons .tmp (.cons .tmp (.cons .tmp .nil))) ?_ E
 show SV.tup [_,.sl 1 Ao (b.drop 8),_]=SV.tup [_,.sl 1 Ao ([]++(b.take b.length).drop 8),_]
 rw[etk]
 rfl
theorem Ad1 (a c v:Nat) (f:FrameM) (h:f.body.length≤1450):ipPutT (Oz a c v f)=(Vu (Oz a c v f),0):=by
 rw[ipPutT,if_neg (by rw[Iu];omega)]
theorem Afb (a b:Nat):udpPort a b≤65535:=by
 have:=Nat.mod_lt (a ^^^ b) (show 0<16384 by decide)
 unfold udpPort
 omega
theorem Al5 (a c v:Nat) (f:FrameM) (ha:a<4294967296) (hc:c<4294967296) (h:f.body.length≤1450):FrameOK ⟨Ii c,Ii a,2048,Vu (Oz a c v f)⟩ :=
 ⟨Xs c hc,Xs a ha,by show (2048:Nat)≤65535;decide,by show (Vu (Oz a c v f)).length≤1504;rw[Mk,Iu];omega⟩
theorem An3 (a c:Nat) (v:Int) (f:FrameM) (ha:a<4294967296) (hc:c<4294967296) (hf:FrameOK f) :
  Sy.Spec Tryz.prog 303 [Bj a,Bj c,Aa v,B9 f] [] (.tup [.sl 1 Ao (wrapT a c v f).1,Aa (wrapT a c v f).2]) []:=Ab Γ hm 100 F303 Tryz.ntmps303 rfl fun F hF=>by
 have hres:=wrapT.eq_1 a c v f
 generalize wrapT a c v f=res at *
 have q0:=M9 f
 have hd:=hf.dst
 have hs:=hf.src
 have hb:=hf.body
 have hpl:=Hg f
 conv=>whnf
 refine A3 7 4 (B9 f) E E E ?_
 by_cases ht:f.typ=33024
 ·rw[if_pos ht]at hres
  subst hres
  rw[decide_eq_true ht]at q0
  refine rg ?_;conv=>whnf
  refine Ag q0 F182 E E E E E ?_
  (refine rg ?_;(conv=>whnf);refine aT ?_;refine rg ?_;conv=>whnf)
  refine Ap 8 1 Ao E ?_
  exact Ac E (.cons .tmp (.cons .tmp .nil)) E E
 rw[if_neg ht]at hres
 rw[decide_eq_false ht]at q0
 refine rg ?_;conv=>whnf
 refine Ag q0 F182 E E E E E ?_
 (refine rg ?_;(conv=>whnf);refine aF ?_;refine rg ?_;conv=>whnf)
 refine Ai (Ak [(0,55)] E F45 (I3 f hf) E Y E ⟨.inr E,Y⟩) E E ?_
 refine Au 55 E ?_
 (refine rg ?_;(conv=>whnf);refine aF ?_;refine rg ?_;conv=>whnf)
 cases hv:T5 v
 rotate_left
 ·rw[if_pos hv]at hres
  subst hres
  refine Ag (Ah4 v hv) F350 E E E E E ?_
  (refine rg ?_;(conv=>whnf);refine aT ?_;refine rg ?_;conv=>whnf)
  refine Ap 8 1 Ao E ?_
  exact Ac E (.cons .tmp (.cons .tmp .nil)) E E
 rw[if_neg (by rw[hv];decide)]at hres
 have hvg:=Ak2 hv
 obtain ⟨k,rfl⟩:=Int.eq_ofNat_of_zero_le (show 0≤v by omega)
 rw[Int.toNat_natCast]at hres
 refine Ai (Ak [(0,56)] E F350 (Amy k qn) E Y E ⟨.inr E,Y⟩) E E ?_
 (refine rg ?_;(conv=>whnf);refine aF ?_;refine rg ?_;conv=>whnf)
 refine⟨fun h=>?_,fun h=>?_⟩
 ·rw[if_pos (by have:=of_decide_eq_true h;omega)]at hres
  subst hres
  refine rg ?_;conv=>whnf
  refine Ap 8 1 Ao E ?_
  exact Ac E (.cons .tmp (.cons .tmp .nil)) E E
 have hl:f.body.length≤1450:=by have:=of_decide_eq_false h;omega
 rw[if_neg qn]at hres
 subst hres
 clear h
 have qp:=Ak8 f.dst f.src qn qn
 have hpo:=Afb f.dst f.src
 have qu:=An5 (udpPort f.dst f.src) 4789 (Ly k++Qp f) hpo qx (by rw[List.length_append,I2,hpl];omega)
 have hwb:(Oz a c k f).body=Ak7 (udpPort f.dst f.src) 4789 (Ly k++Qp f):=rfl
 have qi:=Aa9 (Oz a c k f) (Akz a c k f ha hc) (by rw[Iu];omega)
 rw[Ad1 a c k f hl]at qi
 have qe:=I3 _ (Al5 a c k f ha hc hl)
 refine rg ?_;conv=>whnf
 refine Ag qp F352 E E E E E ?_
 refine rg ?_;conv=>whnf
 refine Ai (Am Γ.toTy 46 E E E E E (.row E) .sl qx (by rw[I2,hpl];simp;omega) (by rw[I2,hpl];omega)) E E ?_
 refine Au 46 E ?_
 refine rg ?_;conv=>whnf
 refine Ag qu F351 E E E E E ?_
 refine rg ?_;conv=>whnf
 refine Ag qi F43 E E E E E ?_
 refine rg ?_;conv=>whnf
 refine Ag (Zu c hc) F44 E E E E E ?_
 refine rg ?_;conv=>whnf
 refine Ag (Zu a ha) F44 E E E E E ?_
 refine rg ?_;conv=>whnf
 refine Ai (Ak [(0,57)] E F45 qe E Y E ⟨.inr E,Y⟩) E E ?_
 refine Au 57 E ?_
 refine rg ?_;conv=>whnf
 exact Ac E (.cons .tmp (.cons .tmp .nil)) E E
end Go.Sy.YteinjapglfkamaaGreat
