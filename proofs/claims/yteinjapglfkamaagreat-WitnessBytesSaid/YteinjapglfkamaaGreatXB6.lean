/-
  K7 K26 K27 K28 K29 Sy34 Sy35 K30 K31 K32 K33 K34 Sy24 T1 T2 T3 T4 V6 V7 V8 T5 T6: parts of a proof, joined by program.
-/
import Derived.Test.YteinjapglfkamaaGreatXB5
import Derived.Test.YteinjapglfkamaaGreatXB3
namespace Go.Sy.YteinjapglfkamaaGreat
open Go.Proofs
attribute [local irreducible] Go.Sy.G Go.Sy.DR
set_option maxRecDepth 100000
set_option maxHeartbeats 4000000
theorem inB_mem {l:List Int} {x:Int}:inB l x=true↔x∈l:=by
 simp[inB]
theorem Ae5 (n:Net) (hn:n.Fin) (port:Int) (b:List UInt8) (hb:b.length<100000) :
  Sy.Spec Tryz.prog 241 [Ap n,Aa port,.sl 1 Ai b] [] (.tup [Aa (linkT n port b).1,Aa (linkT n port b).2.1,B6 (linkT n port b).2.2.1,Aa (linkT n port b).2.2.2]) []:=Ab Γ hm 100 F241 Tryz.ntmps241 rfl fun F hF=>by
 have hres:=linkT.eq_1 n port b
 generalize linkT n port b=res at *
 have qo:=Q8 n hn port
 have qe:=Ac7 n hn (Cz n port) b hb
 generalize Cz n port=o at *
 conv=>whnf
 refine Ag qo F268 E E E E E ?_
 refine rg ?_;conv=>whnf
 refine⟨fun h1=>?_,fun h1=>?_⟩
 ·rw[if_pos (by simpa using h1)]at hres
  subst hres
  refine rg ?_;conv=>whnf
  refine Bc 8 zF E (.cons (.refl _) (.cons (.refl _) (.cons (.refl _) (.cons .nil .nil)))) ?_
  exact Ac E (.cons .tmp (.cons .tmp (.cons (.cell E E E E) (.cons .tmp .nil)))) E E
 rw[if_neg (by simpa using h1)]at hres
 refine rg ?_;conv=>whnf
 refine Ag qe F172 E E E E E ?_
 generalize enterT n o b=en at *
 obtain ⟨x1,g,x2⟩:=en
 subst hres
 refine rg ?_;conv=>whnf
 refine⟨qq,?_⟩
 conv=>whnf
 exact Ac E (.cons .tmp (.cons .tmp (.cons (.cell E E E E) (.cons .tmp .nil)))) E E
end Go.Sy.YteinjapglfkamaaGreat
namespace Go.Sy.YteinjapglfkamaaGreat
open Go.Proofs
theorem Ja (l:List Nat):(By l).length=2 * l.length:=by
 induction l with
 | nil=>rfl
 | cons a l ih=>simp only[By,List.flatMap_cons,List.length_append,List.length_cons,List.length_nil]at ih ⊢;omega
theorem Hi (l:List Nat) (n:Nat):By (l++[n])=By l++[UInt8.ofNat (n / 256),UInt8.ofNat n]:=by simp[By]
theorem Jx (b:List UInt8) (k m:Nat):numAt b k m<256 ^ m:=by
 have h:=Kg _ ((b.drop k).take m) rfl
 have h2:((b.drop k).take m).length≤m:=by rw[List.length_take];omega
 exact Nat.lt_of_lt_of_le h (Nat.pow_le_pow_right qx h2)
theorem O2 {b:List UInt8} {k:Nat} (h:k+2≤b.length):numAt b k 2=(b[k]'qn).toNat * 256+(b[k+1]'qn).toNat:=by
 rw[numAt,Qj h,Af9]
theorem Aau {b:List UInt8} {k:Nat} (h:k<b.length):bAt b k=b[k]:=Wt h
theorem Aj4 {b:List UInt8} {k:Nat} (h:k+3≤b.length):(b.drop k).take 3=[b[k]'qn,b[k+1]'qn,b[k+2]'qn]:=by
 rw[List.drop_eq_getElem_cons qn,List.drop_eq_getElem_cons (i:=k+1) qn,List.drop_eq_getElem_cons (i:=k+2) qn]
 rfl
theorem Aj3 {b:List UInt8} {k:Nat} (h:k+4≤b.length):(b.drop k).take 4=[b[k]'qn,b[k+1]'qn,b[k+2]'qn,b[k+3]'qn]:=by
 rw[List.drop_eq_getElem_cons qn,List.drop_eq_getElem_cons (i:=k+1) qn,List.drop_eq_getElem_cons (i:=k+2) qn,List.drop_eq_getElem_cons (i:=k+3) qn]
 rfl
theorem numAt3 {b:List UInt8} {k:Nat} (h:k+3≤b.length):numAt b k 3=((b[k]'qn).toNat * 256+(b[k+1]'qn).toNat) * 256+(b[k+2]'qn).toNat:=by
 rw[numAt,Aj4 h]
 simp[Hz]
theorem numAt4 {b:List UInt8} {k:Nat} (h:k+4≤b.length):numAt b k 4=numAt b k 2 * 65536+numAt b (k+2) 2:=by
 have e:b[k+2+1]'qn=b[k+3]'qn:=rfl
 rw[numAt,Aj3 h,O2 qn,O2 qn,e]
 simp[Hz]
 omega
theorem Ew (f:FrameM):(M1 f).length=14+f.body.length:=by
 simp[M1,frame,Aw]
 omega
theorem Jj (p:PacketM) (s:Nat):(Ec p s).length=20:=by rw[Ec,Ja];rfl
theorem Lz (p:PacketM):(Sb p).length=20+p.body.length:=by rw[Sb,List.length_append,Jj]
theorem Aa8 (s d:Nat) (b:List UInt8):(Ajy s d b).length=8+b.length:=by rw[Ajy,List.length_append,Ja];rfl
theorem H8 (v:Nat):(K9 v).length=8:=rfl
theorem Cw:FrameOK noF:=⟨by decide,by decide,by decide,by decide⟩
theorem Wo (ip:Nat) (h:ip<4294967296):E5 ip<281474976710656:=by rw[E5,Int.toNat_natCast];omega
theorem Xx (n:Net) (port dom:Int) (f:FrameM) (hf:FrameOK f):(leaveT n port dom f).1.length≤1518:=by
 have h4:=hf.body
 unfold leaveT
 split
 ·simp
 split
 ·simp
 split
 ·simp
 split
 ·rw[Ew];omega
 split
 ·simp
 ·rw[Ew]
  rename_i h
  have h2:(tagT f (nth n.domains dom).vlan).2=0:=Classical.byContradiction h
  unfold tagT at h2 ⊢
  split
  ·rw[if_pos (by assumption)]at h2;cases h2
  rw[if_neg (by assumption)]at h2
  split
  ·rw[if_pos (by assumption)]at h2;cases h2
  ·dsimp only
   simp
   omega
theorem Wj {b:List UInt8} (h:(ipTakeT b).2=0):PacketOK (ipTakeT b).1∧(ipTakeT b).1.body.length+20≤b.length:=by
 unfold ipTakeT at h ⊢
 split
 ·rw[if_pos (by assumption)]at h;cases h
 rw[if_neg (by assumption)]at h
 split
 ·rw[if_pos (by assumption)]at h;cases h
 rw[if_neg (by assumption)]at h
 split
 ·rw[if_pos (by assumption)]at h;cases h
 rw[if_neg (by assumption)]at h
 split
 ·rw[if_pos (by assumption)]at h;cases h
 rw[if_neg (by assumption)]at h
 split
 ·rw[if_pos (by assumption)]at h;cases h
 have l1:=(bAt b 1).toNat_lt
 have l8:=(bAt b 8).toNat_lt
 have l9:=(bAt b 9).toNat_lt
 have n4:=Jx b 4 2
 have n12:=Jx b 12 4
 have n16:=Jx b 16 4
 refine⟨⟨?_,?_,?_,?_,?_,?_⟩,?_⟩
 ·show (bAt b 1).toNat≤255;omega
 ·show numAt b 4 2≤65535;omega
 ·show (bAt b 8).toNat≤255;omega
 ·show (bAt b 9).toNat≤255;omega
 ·exact n12
 ·exact n16
 ·show ((b.take (numAt b 2 2)).drop 20).length+20≤b.length
  rw[List.length_drop,List.length_take]
  omega
theorem Aoj {b:List UInt8} (h:(ipTakeT b).2≠0):(ipTakeT b).1=noP:=by
 unfold ipTakeT at h ⊢
 split
 ·rfl
 rw[if_neg (by assumption)]at h
 split
 ·rfl
 rw[if_neg (by assumption)]at h
 split
 ·rfl
 rw[if_neg (by assumption)]at h
 split
 ·rfl
 rw[if_neg (by assumption)]at h
 split
 ·rfl
 rw[if_neg (by assumption)]at h
 exact absurd E h
theorem Ae1:PacketOK noP:=⟨by decide,by decide,by decide,by decide,by decide,by decide⟩
theorem Ot:∀ (l:List Nat) (j:Nat),j≤l.length→(∀ n∈l,n<4294967296)→Hh (By l) j=((l.take j).map (· % 65536)).sum
 | l,0,_,_=>by simp[Hh]
 | l,j+1,h,hl=>by
  have ih:=Ot l j qn hl
  have hj:j<l.length:=by omega
  have e1:(By l).getD (2 * j) 0=UInt8.ofNat (l[j] / 256)∧(By l).getD (2 * j+1) 0=UInt8.ofNat l[j]:=by
   clear ih hl
   induction l generalizing j with
   | nil=>simp at hj
   | cons a l ih2 =>
    cases j with
    | zero=>simp[By]
    | succ j =>
     have:=ih2 j (by simpa using h) (by simpa using hj)
     rw[By,List.flatMap_cons,show 2 * (j+1)+1=(2 * j+1)+1+1 by omega,show 2 * (j+1)=2 * j+1+1 by omega]
     simpa [By] using this
  rw[Hh,ih,e1.1,e1.2,List.take_succ_eq_append_getElem hj,List.map_append,List.sum_append]
  have hx:=hl l[j] (List.getElem_mem hj)
  generalize l[j]=x at *
  simp only[List.map_cons,List.map_nil,List.sum_cons,List.sum_nil,Ab7]
  omega
def Mp (p:PacketM):List UInt8:=[69,UInt8.ofNat p.tos]++be 2 (20+p.body.length)++be 2 p.id++[0,0,UInt8.ofNat p.ttl,UInt8.ofNat p.proto]++(be 4 p.src++be 4 p.dst)
theorem Ly (p:PacketM):(Mp p).length=18:=by simp[Mp,Aw]
theorem be2 (m:Nat):be 2 m=By [m]:=by simp[be,By]
theorem be4 (m:Nat):be 4 m=By [m / 65536,m]:=by simp[be,By,Nat.div_div_eq_div_mul]
theorem Xz {p:PacketM} (hp:PacketOK p):Mp p=By [17664+p.tos,20+p.body.length,p.id,0,p.ttl * 256+p.proto,p.src / 65536,p.src,p.dst / 65536,p.dst]:=by
 have h1:=hp.tos
 have h2:=hp.proto
 have h3:=hp.ttl
 have e1:(17664+p.tos) / 256=69:=by omega
 have e2:UInt8.ofNat (17664+p.tos)=UInt8.ofNat p.tos:=by apply UInt8.toNat_inj.1;simp
 have e3:(p.ttl * 256+p.proto) / 256=p.ttl:=by omega
 have e4:UInt8.ofNat (p.ttl * 256+p.proto)=UInt8.ofNat p.proto:=by apply UInt8.toNat_inj.1;simp
 rw[Mp,be2,be2,be4,be4]
 simp only[By,List.flatMap_cons,List.flatMap_nil,List.cons_append,List.nil_append,List.append_nil,e1,e2,e3,e4]
 rfl
theorem Abd {p:PacketM} (hp:PacketOK p) (hb:p.body.length≤1480) (s:Nat) (hs:s≤65535):∀ n∈[17664+p.tos,20+p.body.length,p.id,0,p.ttl * 256+p.proto,s,p.src / 65536,p.src,p.dst / 65536,p.dst],n<4294967296:=by
 have h1:=hp.tos
 have h2:=hp.proto
 have h3:=hp.ttl
 have h4:=hp.id
 have h5:=hp.src
 have h6:=hp.dst
 intro n hn
 simp only[List.mem_cons,List.not_mem_nil,or_false]at hn
 rcases hn with rfl | rfl | rfl | rfl | rfl | rfl | rfl | rfl | rfl | rfl<;>omega
theorem Acq {p:PacketM} (hp:PacketOK p) (hb:p.body.length≤1480):Qk (Mp p)=J3 p:=by
 have hw:=Abd hp hb 0 qx
 rw[J3,Qk,Qk,Ly,Jj,Xz hp,Ec]
 rw[show 18 / 2=9 from rfl,show 20 / 2=10 from rfl,Ot _ 9 qy (fun n hn=>hw n (by
  simp only[List.mem_cons,List.not_mem_nil,or_false]at hn ⊢
  rcases hn with h | h | h | h | h | h | h | h | h<;>simp[h])),Ot _ 10 qy hw]
 simp
theorem Acr {p:PacketM} (hp:PacketOK p):[69,UInt8.ofNat p.tos]++be 2 (20+p.body.length)++be 2 p.id++[0,0,UInt8.ofNat p.ttl,UInt8.ofNat p.proto]++be 2 (J3 p)++(be 4 p.src++be 4 p.dst)=Ec p (J3 p):=by
 have h1:=hp.tos
 have h2:=hp.proto
 have h3:=hp.ttl
 have e1:(17664+p.tos) / 256=69:=by omega
 have e2:UInt8.ofNat (17664+p.tos)=UInt8.ofNat p.tos:=by apply UInt8.toNat_inj.1;simp
 have e3:(p.ttl * 256+p.proto) / 256=p.ttl:=by omega
 have e4:UInt8.ofNat (p.ttl * 256+p.proto)=UInt8.ofNat p.proto:=by apply UInt8.toNat_inj.1;simp
 rw[Ec,be2,be2,be2,be4,be4]
 simp only[By,List.flatMap_cons,List.flatMap_nil,List.cons_append,List.nil_append,List.append_nil,e1,e2,e3,e4]
 rfl
theorem Afc (p:PacketM) (s:Nat):((Ec p 0).set 10 (UInt8.ofNat (s / 256))).set 11 (UInt8.ofNat s)=Ec p s:=by
 simp only[Ec,By,List.flatMap_cons,List.flatMap_nil,List.cons_append,List.nil_append,List.set_cons_succ,List.set_cons_zero]
theorem Ajq (a b v:Nat) (f:FrameM) (ha:a<4294967296) (hb:b<4294967296):PacketOK (M5 a b v f):=⟨Nat.zero_le _,Nat.zero_le _,by show (64:Nat)≤255;decide,by show (17:Nat)≤255;decide,ha,hb⟩
theorem Hy (a b v:Nat) (f:FrameM):(M5 a b v f).body.length=30+f.body.length:=by
 simp only[M5,Aa8,List.length_append,H8,Ew];omega
theorem Zd (a b:Nat) (v:Int) (f:FrameM):(wrapT a b v f).1.length≤1514:=by
 unfold wrapT
 split
 ·simp
 split
 ·simp
 split
 ·simp
 ·simp only[frame,List.length_append,Aw,Lz,Hy,List.length_cons,List.length_nil];omega
theorem Z0 (n:Net) (dom peer:Int) (f:FrameM):(meshT n dom peer f).1.length≤1514:=by
 unfold meshT
 split
 ·simp
 split
 ·simp
 ·exact Zd _ _ _ _
theorem Ams {b:List UInt8}:(udpTakeT b).2.2.1.length≤b.length:=by
 unfold udpTakeT
 repeat' split
 all_goals first | (simp;done) | (simp only[List.length_drop,List.length_take];omega)
theorem vniT_body {b:List UInt8}:(vniT b).2.1.length≤b.length:=by
 unfold vniT
 repeat' split
 all_goals first | (simp;done) | (simp only[List.length_drop];omega)
theorem Tl (b:List UInt8):PacketOK (outerT b).1∧(outerT b).1.body.length≤b.length:=by
 unfold outerT
 split
 ·exact⟨Ae1,by simp[noP]⟩
 split
 ·exact⟨Ae1,by simp[noP]⟩
 split
 ·exact⟨Ae1,by simp[noP]⟩
 ·rename_i h1 h2 h3
  have h4:(takeF b).2=0:=Classical.byContradiction h1
  have h5:(ipTakeT (takeF b).1.body).2=0:=Classical.byContradiction h3
  obtain ⟨h6,h7⟩:=Wj h5
  refine⟨h6,?_⟩
  have h8:(takeF b).1.body.length≤b.length:=by
   unfold takeF
   repeat' split
   all_goals simp[noF]
  dsimp only
  omega
theorem Yu (b:List UInt8):FrameOK (Jk b).2.1∧0≤(Jk b).1:=by
 unfold Jk
 repeat' split
 all_goals first | exact⟨Cw,Int.le_refl _⟩ | skip
 rename_i h1 h2 h3 h4 h5
 refine⟨Vn (Classical.byContradiction h4),?_⟩
 show 0≤(vniT (udpTakeT b).2.2.1).1
 unfold vniT
 repeat' split
 all_goals omega
theorem Vk (b:List UInt8):(Bu b).1<4294967296∧(Bu b).2.1<4294967296∧0≤(Bu b).2.2.1∧FrameOK (Bu b).2.2.2.1:=by
 unfold Bu
 split
 ·exact⟨Nat.zero_lt_succ _,Nat.zero_lt_succ _,Int.le_refl _,Cw⟩
 split
 ·exact⟨Nat.zero_lt_succ _,Nat.zero_lt_succ _,Int.le_refl _,Cw⟩
 ·exact⟨(Tl b).1.src,(Tl b).1.dst,(Yu _).2,(Yu _).1⟩
theorem Y4 (n:Net) (port:Int) (f:FrameM) (hf:FrameOK f) (tg:Bool) (vid:Int):FrameOK (It n port f tg vid).2.1:=by
 unfold It
 split
 ·exact Cw
 split
 ·exact Cw
 ·exact hf
theorem Tw (n:Net) (port:Int) (b:List UInt8):FrameOK (enterT n port b).2.1:=by
 unfold enterT
 split
 ·exact Cw
 split
 ·exact Cw
 rename_i h1 h2
 have h3:=Vn (Classical.byContradiction h2)
 split
 ·split
  ·exact Cw
  ·rename_i h5
   exact Y4 _ _ _ (Aj8 h3 (Classical.byContradiction h5)) _ _
 ·exact Y4 _ _ _ h3 _ _
theorem Aci (n:Net) (port:Int) (b:List UInt8):FrameOK (linkT n port b).2.2.1:=by
 unfold linkT
 split
 ·exact Cw
 ·exact Tw _ _ _
theorem Adg (n:Net) (b:List UInt8):FrameOK (comeT n b).2.2.1:=by
 unfold comeT
 split
 ·exact Cw
 split
 ·exact Cw
 split
 ·exact Cw
 split
 ·exact Cw
 ·exact(Vk b).2.2.2
theorem Ans (n:Net) (hm:n.Num) (irb:Int) (f:FrameM) (hin:∀ (d:Int),(lookT n irb d).2=true→0≤(lookT n irb d).1∧(lookT n irb d).1.toNat<n.irbs.length):FrameOK (hopT n irb f).2.1:=by
 unfold hopT
 split
 ·exact Cw
 split
 ·exact Cw
 split
 ·exact Cw
 split
 ·exact Cw
 split
 ·exact Cw
 split
 ·exact Cw
 rename_i h1 h2 h3 h4 h5 h6
 have hp:=(Wj (Classical.byContradiction h3)).1
 have hl:=hin ((ipTakeT f.body).1.dst:Int) (by simpa using h5)
 have ha:=hm.addr _ (List.getElem_mem hl.2)
 rw[← Am hl.2]at ha
 refine⟨Wo _ hp.dst,?_,?_,?_⟩
 ·show E5 (nth n.irbs _).addr<_
  rw[E5];omega
 ·show (2048:Nat)≤65535;decide
 ·show (Sb (Aff (ipTakeT f.body).1)).length≤1504
  rw[Lz]
  show 20+(ipTakeT f.body).1.body.length≤1504
  omega
end Go.Sy.YteinjapglfkamaaGreat
namespace Go.Sy.YteinjapglfkamaaGreat
open Go.Proofs
attribute [local irreducible] Go.Sy.G Go.Sy.DR
set_option maxRecDepth 100000
set_option maxHeartbeats 4000000
theorem U2 (a b:Nat) (ha:a<4294967296) (hb:b<4294967296):bits .or .u32 (a:Int) (b:Int)=((a ||| b:Nat):Int):=by
 have hx:a ||| b<2 ^ 32:=Nat.or_lt_two_pow qn qn
 have h1:(BitVec.ofInt 32 (a:Int)).toNat=a:=by
  rw[BitVec.ofInt_natCast,BitVec.toNat_ofNat];exact Nat.mod_eq_of_lt qn
 have h2:(BitVec.ofInt 32 (b:Int)).toNat=b:=by
  rw[BitVec.ofInt_natCast,BitVec.toNat_ofNat];exact Nat.mod_eq_of_lt qn
 show IntKind.u32.wrap ((BitVec.ofInt 32 (a:Int) ||| BitVec.ofInt 32 (b:Int)).toNat:Int)=_
 rw[BitVec.toNat_or,h1,h2,IntKind.wrap_u32]
 omega
theorem Ag1 (x:UInt8) (k:UInt8):((x.toNat:Int) != (k.toNat:Int))=decide (x≠k):=by
 rw[Bool.eq_iff_iff]
 simp only[bne_iff_ne,decide_eq_true_eq,ne_eq,← UInt8.toNat_inj]
 omega
theorem Sa (b:List UInt8) (k:Nat) (h:k+2≤b.length) (hb:b.length<100000):Sy.Spec Tryz.prog 345 [.sl 1 Ai b,Aa k] [] (Aa (numAt b k 2)) []:=Ab Γ hm 100 F345 Tryz.ntmps345 rfl fun F hF=>by
 have i0:((k:Nat):Int).toNat<b.length:=by simpa using (by omega:k<b.length)
 have i1:((k:Int)+1).toNat<b.length:=by omega
 have e0:b[((k:Nat):Int).toNat]'i0=b[k]'qn:=rfl
 have e1:b[((k:Int)+1).toNat]'i1=b[k+1]'qn:=rfl
 have hp:=D9 (b[k]'qn) (b[k+1]'qn)
 have hn:=O2 h
 rw[← hn]at hp
 conv=>whnf
 refine⟨E,by omega,i0,?_⟩
 rw[e0]
 conv=>whnf
 refine⟨by decide,?_⟩
 conv=>whnf
 refine⟨by unfold I64;omega,?_⟩
 conv=>whnf
 refine⟨E,by omega,i1,?_⟩
 rw[e1]
 conv=>whnf
 refine⟨qq,?_⟩
 rw[hp]
 conv=>whnf
 exact Ac E (.cons .tmp .nil) E E
theorem Aj0 (x y:Nat) (hx:x<65536) (hy:y<65536):bits .or .u32 (IntKind.u32.wrap ((IntKind.u32.wrap (x:Int)) * 2 ^ min (Int.toNat 16) IntKind.u32.bits)) (IntKind.u32.wrap (y:Int))=((x * 65536+y:Nat):Int):=by
 have e1:IntKind.u32.wrap (x:Int)=(x:Int):=by rw[IntKind.wrap_u32];omega
 have e2:IntKind.u32.wrap (y:Int)=(y:Int):=by rw[IntKind.wrap_u32];omega
 rw[e1,e2]
 have e3:IntKind.u32.wrap ((x:Int) * 2 ^ min (Int.toNat 16) IntKind.u32.bits)=((x * 65536:Nat):Int):=by
  show IntKind.u32.wrap ((x:Int) * 65536)=_
  rw[IntKind.wrap_u32]
  omega
 rw[e3,U2 _ _ qn qn]
 congr 1
 have h:=Nat.two_pow_add_eq_or_of_lt (i:=16) (b:=y) qn x
 rw[Nat.mul_comm x 65536]
 exact h.symm
theorem Ags (b:List UInt8) (k:Nat) (h:k+4≤b.length) (hb:b.length<100000):Sy.Spec Tryz.prog 347 [.sl 1 Ai b,Aa k] [] (Bm (numAt b k 4)) []:=Ab Γ hm 100 F347 Tryz.ntmps347 rfl fun F hF=>by
 have q1:=Sa b k qn hb
 have q2:=Sa b (k+2) qn hb
 rw[show ((k+2:Nat):Int)=(k:Int)+2 by omega]at q2
 have hf:=Aj0 (numAt b k 2) (numAt b (k+2) 2) (by have:=Jx b k 2;omega) (by have:=Jx b (k+2) 2;omega)
 rw[← numAt4 h]at hf
 conv=>whnf
 refine Ag q1 F345 E E E E E ?_
 refine rg ?_;conv=>whnf
 refine⟨by decide,?_⟩
 conv=>whnf
 refine⟨by unfold I64;omega,?_⟩
 conv=>whnf
 refine Ag q2 F345 E E E E E ?_
 refine rg ?_;conv=>whnf
 rw[hf]
 exact Ac E (.cons .tmp .nil) E E
theorem Ahg (l:List UInt8) (hl:l.length<100000) (h2:l.length % 2=0):Sy.Spec Tryz.prog 346 [.sl 1 Ai l] [] (Ad (decide (C5 (Hh l (l.length / 2))=65535))) []:=Ab Γ hm 100 F346 Tryz.ntmps346 rfl fun F hF=>by
 have ha:=Aga l hl h2
 conv=>whnf
 refine Ag ha F156 E E E E E ?_
 refine rg ?_;conv=>whnf
 refine Ac E (.cons .tmp .nil) (congrArg Ad ?_) E
 rw[Bool.eq_iff_iff]
 simp only[beq_iff_eq,decide_eq_true_eq]
 omega
abbrev zP:List SV:=[Aa 0,Aa 0,Aa 0,Aa 0,Bm 0,Bm 0,.sl 1 Ai []]
theorem Agr (b:List UInt8) (hb:b.length<100000):Sy.Spec Tryz.prog 297 [.sl 1 Ai b] [] (.tup [Lu (ipTakeT b).1,Aa (ipTakeT b).2]) []:=Ab Γ hm 100 F297 Tryz.ntmps297 rfl fun F hF=>by
 have hres:=ipTakeT.eq_1 b
 generalize ipTakeT b=res at *
 conv=>whnf
 refine⟨fun h=>?_,fun h=>?_⟩
 ·rw[if_pos (by have:=of_decide_eq_true h;omega)]at hres
  subst hres
  refine rg ?_;conv=>whnf
  refine Bc 2 zP E (.cons (.refl _) (.cons (.refl _) (.cons (.refl _) (.cons (.refl _) (.cons (.refl _) (.cons (.refl _) (.cons .nil .nil))))))) ?_
  exact Ac E (.cons (.cell E E E E) (.cons .tmp .nil)) E E
 have h20:20≤b.length:=by have:=of_decide_eq_false h;omega
 rw[if_neg qn]at hres
 clear h
 have i0:(0:Int).toNat<b.length:=by show 0<_;omega
 have i1:(1:Int).toNat<b.length:=by show 1<_;omega
 have i8:(8:Int).toNat<b.length:=by show 8<_;omega
 have i9:(9:Int).toNat<b.length:=by show 9<_;omega
 have e0:b[(0:Int).toNat]'i0=bAt b 0:=(Aau qn).symm
 have q2:=Sa b 2 qn hb
 have q4:=Sa b 4 qn hb
 have q6:=Sa b 6 qn hb
 have q12:=Ags b 12 qn hb
 have q16:=Ags b 16 qn hb
 have hl20:(b.take 20).length=20:=by rw[List.length_take];omega
 have hdiv:(b.take 20).length / 2=10:=by rw[hl20]
 have qs:=Ahg (b.take 20) qn (by rw[hl20])
 rw[hdiv]at qs
 refine rg ?_;conv=>whnf
 refine⟨E,by decide,i0,?_⟩
 rw[e0]
 conv=>whnf
 refine⟨fun h=>?_,fun h=>?_⟩
 ·rw[if_pos (.inl (by rw[show ((69:Int))=((69:UInt8).toNat:Int) from rfl,Ag1]at h;exact of_decide_eq_true h))]at hres
  subst hres
  (refine rg ?_;(conv=>whnf);refine aT ?_;refine rg ?_;conv=>whnf)
  refine Bc 2 zP E (.cons (.refl _) (.cons (.refl _) (.cons (.refl _) (.cons (.refl _) (.cons (.refl _) (.cons (.refl _) (.cons .nil .nil))))))) ?_
  exact Ac E (.cons (.cell E E E E) (.cons .tmp .nil)) E E
 have h69:¬ bAt b 0≠69:=by rw[show ((69:Int))=((69:UInt8).toNat:Int) from rfl,Ag1]at h;exact of_decide_eq_false h
 clear h
 refine rg ?_;conv=>whnf
 refine Ag q2 F345 E E E E E ?_
 refine rg ?_;conv=>whnf
 refine⟨fun h=>?_,fun h=>?_⟩
 ·rw[if_pos (.inr (by have:=of_decide_eq_true h;omega))]at hres
  subst hres
  refine rg ?_;conv=>whnf
  refine Bc 2 zP E (.cons (.refl _) (.cons (.refl _) (.cons (.refl _) (.cons (.refl _) (.cons (.refl _) (.cons (.refl _) (.cons .nil .nil))))))) ?_
  exact Ac E (.cons (.cell E E E E) (.cons .tmp .nil)) E E
 have hs20:20≤numAt b 2 2:=by have:=of_decide_eq_false h;omega
 rw[if_neg (fun h=>h.elim h69 qn)]at hres
 clear h
 refine rg ?_;conv=>whnf
 refine Ag q2 F345 E E E E E ?_
 refine rg ?_;conv=>whnf
 refine⟨fun h=>?_,fun h=>?_⟩
 ·rw[if_pos (by have:=of_decide_eq_true h;omega)]at hres
  subst hres
  refine rg ?_;conv=>whnf
  refine Bc 2 zP E (.cons (.refl _) (.cons (.refl _) (.cons (.refl _) (.cons (.refl _) (.cons (.refl _) (.cons (.refl _) (.cons .nil .nil))))))) ?_
  exact Ac E (.cons (.cell E E E E) (.cons .tmp .nil)) E E
 have hsl:numAt b 2 2≤b.length:=by have:=of_decide_eq_false h;omega
 rw[if_neg qn]at hres
 clear h
 refine rg ?_;conv=>whnf
 refine Ag q6 F345 E E E E E ?_
 refine rg ?_;conv=>whnf
 refine⟨fun h=>?_,fun h=>?_⟩
 ·rw[if_pos (by have:(numAt b 6 2:Int)≠0:=(by simpa using h);omega)]at hres
  subst hres
  refine rg ?_;conv=>whnf
  refine Bc 2 zP E (.cons (.refl _) (.cons (.refl _) (.cons (.refl _) (.cons (.refl _) (.cons (.refl _) (.cons (.refl _) (.cons .nil .nil))))))) ?_
  exact Ac E (.cons (.cell E E E E) (.cons .tmp .nil)) E E
 rw[if_neg (by have:(numAt b 6 2:Int)=0:=(by simpa using h);omega)]at hres
 clear h
 refine rg ?_;conv=>whnf
 refine Ah (Ci (lo:=0) (hi:=20) Γ.toTy E E E E (.inl ⟨E,E⟩) (.inr ⟨_,_,E,E⟩) qn h20) E E ?_
 refine rg ?_;conv=>whnf
 refine Ag qs F346 E E E E E ?_
 by_cases hsum:C5 (Hh (b.take 20) 10)=65535
 rotate_left
 ·rw[if_pos hsum]at hres
  subst hres
  rw[decide_eq_false hsum]
  (refine rg ?_;(conv=>whnf);refine aT ?_;refine rg ?_;conv=>whnf)
  refine Bc 2 zP E (.cons (.refl _) (.cons (.refl _) (.cons (.refl _) (.cons (.refl _) (.cons (.refl _) (.cons (.refl _) (.cons .nil .nil))))))) ?_
  exact Ac E (.cons (.cell E E E E) (.cons .tmp .nil)) E E
 rw[if_neg (fun h=>h hsum)]at hres
 subst hres
 rw[decide_eq_true hsum]
 have qc:=K1 ((b.take (numAt b 2 2)).drop 20) (by rw[List.length_drop,List.length_take];omega)
 have w1:IntKind.i64.wrap ((b[(1:Int).toNat]'i1).toNat:Int)=((bAt b 1).toNat:Int):=by
  rw[Aau (show 1<b.length by omega)]
  have:=(b[1]'qn).toNat_lt
  show IntKind.i64.wrap ((b[1]'qn).toNat:Int)=_
  rw[IntKind.wrap_i64];omega
 have w8:IntKind.i64.wrap ((b[(8:Int).toNat]'i8).toNat:Int)=((bAt b 8).toNat:Int):=by
  rw[Aau (show 8<b.length by omega)]
  have:=(b[8]'qn).toNat_lt
  show IntKind.i64.wrap ((b[8]'qn).toNat:Int)=_
  rw[IntKind.wrap_i64];omega
 have w9:IntKind.i64.wrap ((b[(9:Int).toNat]'i9).toNat:Int)=((bAt b 9).toNat:Int):=by
  rw[Aau (show 9<b.length by omega)]
  have:=(b[9]'qn).toNat_lt
  show IntKind.i64.wrap ((b[9]'qn).toNat:Int)=_
  rw[IntKind.wrap_i64];omega
 (refine rg ?_;(conv=>whnf);refine aF ?_;refine rg ?_;conv=>whnf)
 refine⟨E,by decide,i1,?_⟩
 conv=>whnf
 refine Au q4 F345 E E E qq E ?_
 refine rd qq ?_;conv=>whnf
 refine⟨E,by decide,i8,?_⟩
 conv=>whnf
 refine⟨E,by decide,i9,?_⟩
 conv=>whnf
 refine Au q12 F347 E E E qq E ?_
 refine rd qq ?_;conv=>whnf
 refine Au q16 F347 E E E qq E ?_
 refine rd qq ?_;conv=>whnf
 refine Au q2 F345 E E E qq E ?_
 refine rd qq ?_;conv=>whnf
 refine Bo (Ci (lo:=20) (hi:=numAt b 2 2) Γ.toTy E E E E (.inr ⟨_,_,E,E⟩) (.inr ⟨_,_,E,E⟩) hs20 hsl) qq E ?_
 refine rd qq ?_;conv=>whnf
 refine Au qc F290 E E E qq E ?_
 refine rd qq ?_;conv=>whnf
 refine⟨qq,?_⟩
 conv=>whnf
 refine Ac E (.cons (.cell E E E E) (.cons .tmp .nil)) ?_ E
 show SV.tup [.agg [Aa (bAt b 1).toNat,_,Aa (bAt b 8).toNat,Aa (bAt b 9).toNat,_,_,_],_]=SV.tup [.agg [Aa (IntKind.i64.wrap ((b[(1:Int).toNat]'i1).toNat:Int)),_,Aa (IntKind.i64.wrap ((b[(8:Int).toNat]'i8).toNat:Int)),Aa (IntKind.i64.wrap ((b[(9:Int).toNat]'i9).toNat:Int)),_,_,_],_]
 rw[w1,w8,w9]
 rfl
theorem Ak1 (t:Nat) (h:t≤255):bits .or .i64 17664 (t:Int)=((17664+t:Nat):Int):=by
 have h1:=C2 17664 t qx qn
 rw[show ((17664:Nat):Int)=17664 from rfl]at h1
 rw[h1]
 congr 1
 have h2:=Nat.two_pow_add_eq_or_of_lt (i:=8) (b:=t) qn 69
 rw[show 2 ^ 8 * 69=17664 from rfl]at h2
 rw[← h2]
theorem Anb (x y:Nat) (hx:x≤255) (hy:y≤255):bits .or .i64 (IntKind.i64.wrap ((x:Int) * 2 ^ min (Int.toNat 8) IntKind.i64.bits)) (y:Int)=((x * 256+y:Nat):Int):=by
 have h3:IntKind.i64.wrap ((x:Int) * 2 ^ min (Int.toNat 8) IntKind.i64.bits)=((x * 256:Nat):Int):=by
  show IntKind.i64.wrap ((x:Int) * 256)=_
  rw[IntKind.wrap_i64]
  omega
 rw[h3,C2 _ _ qn qn]
 congr 1
 have h:=Nat.two_pow_add_eq_or_of_lt (i:=8) (b:=y) qn x
 rw[Nat.mul_comm x 256]
 exact h.symm
theorem Acy (x:Nat) (h:x<4294967296):IntKind.i64.wrap ((x:Int).fdiv (2 ^ (min (Int.toNat 16) IntKind.u32.bits)))=((x / 65536:Nat):Int):=by
 show IntKind.i64.wrap ((x:Int).fdiv 65536)=_
 rw[Int.fdiv_eq_ediv_of_nonneg _ qx,IntKind.wrap_i64]
 omega
theorem U6 (x:Nat) (h:x<4294967296):IntKind.i64.wrap (x:Int)=(x:Int):=by rw[IntKind.wrap_i64];omega
theorem Z7 (p:PacketM) (hp:PacketOK p) (hb:p.body.length<100000):Sy.Spec Tryz.prog 43 [Lu p] [] (.tup [.sl 1 Ai (ipPutT p).1,Aa (ipPutT p).2]) []:=Ab Γ hm 100 F43 Tryz.ntmps43 rfl fun F hF=>by
 have hres:=ipPutT.eq_1 p
 generalize ipPutT p=res at *
 have h1:=hp.tos
 have h2:=hp.id
 have h3:=hp.ttl
 have h4:=hp.proto
 have h5:=hp.src
 have h6:=hp.dst
 conv=>whnf
 refine Ds ⟨⟨_,_,F103⟩,Zj p.tos 255 qn⟩ E E E E E E ?_
 (refine rg ?_;(conv=>whnf);refine aF ?_;refine rg ?_;conv=>whnf)
 refine Ds ⟨⟨_,_,F103⟩,Zj p.ttl 255 qn⟩ E E E E E E ?_
 (refine rg ?_;(conv=>whnf);refine aF ?_;refine rg ?_;conv=>whnf)
 refine Ds ⟨⟨_,_,F103⟩,Zj p.proto 255 qn⟩ E E E E E E ?_
 (refine rg ?_;(conv=>whnf);refine aF ?_;refine rg ?_;conv=>whnf)
 refine Ds ⟨⟨_,_,F103⟩,Zj p.id 65535 qn⟩ E E E E E E ?_
 (refine rg ?_;(conv=>whnf);refine aF ?_;refine rg ?_;conv=>whnf)
 refine⟨fun h=>?_,fun h=>?_⟩
 ·rw[if_pos (by have:=of_decide_eq_true h;omega)]at hres
  subst hres
  refine rg ?_;conv=>whnf
  refine Ao 2 1 Ai E ?_
  exact Ac E (.cons .tmp (.cons .tmp .nil)) E E
 have hl:p.body.length≤1480:=by have:=of_decide_eq_false h;omega
 rw[if_neg qn]at hres
 subst hres
 clear h
 have hsz:Sb p=((Ec p 0).set 10 (UInt8.ofNat (J3 p / 256))).set 11 (UInt8.ofNat (J3 p))++p.body:=by rw[Afc,Sb]
 rw[hsz]
 have hil:=Jj p 0
 have hs:=sumOfS (Ec p 0) (by rw[hil];decide) (by rw[hil])
 have hput:=Alj [17664+p.tos,20+p.body.length,p.id,0,p.ttl * 256+p.proto,0,p.src / 65536,p.src,p.dst / 65536,p.dst] qy
 rw[show Il [17664+p.tos,20+p.body.length,p.id,0,p.ttl * 256+p.proto,0,p.src / 65536,p.src,p.dst / 65536,p.dst]=Ec p 0 from rfl]at hput
 have hss:Qk (Ec p 0)=J3 p:=rfl
 rw[hss]at hs
 have hsl:J3 p≤65535:=Nat.sub_le _ _
 generalize J3 p=s at *
 have htb:=D4 s
 have o1:=Ak1 p.tos h1
 have o2:=Anb p.ttl p.proto h3 h4
 have g1:=Acy p.src h5
 have g2:=U6 p.src h5
 have g3:=Acy p.dst h6
 have g4:=U6 p.dst h6
 generalize Ec p 0=b at *
 refine rg ?_;conv=>whnf
 refine⟨by unfold I64;omega,?_⟩
 conv=>whnf
 refine⟨by decide,?_⟩
 conv=>whnf
 refine⟨by decide,?_⟩
 conv=>whnf
 refine⟨by decide,?_⟩
 conv=>whnf
 refine Adz 68 (e:=Ak8) (l:=[17664+p.tos,20+p.body.length,p.id,0,p.ttl * 256+p.proto,0,p.src / 65536,p.src,p.dst / 65536,p.dst]) E ?_ ?_
 ·show _=[SV.val (.int .i64 (bits .or .i64 17664 (p.tos:Int))),SV.val _,SV.val _,SV.val _,SV.val (.int .i64 (bits .or .i64 (IntKind.i64.wrap ((p.ttl:Int) * 2 ^ min (Int.toNat 8) IntKind.i64.bits)) (p.proto:Int))),SV.val _,
   SV.val (.int .i64 (IntKind.i64.wrap ((p.src:Int).fdiv (2 ^ (min (Int.toNat 16) IntKind.u32.bits))))),SV.val (.int .i64 (IntKind.i64.wrap (p.src:Int))),SV.val (.int .i64 (IntKind.i64.wrap ((p.dst:Int).fdiv (2 ^ (min (Int.toNat 16) IntKind.u32.bits))))),SV.val (.int .i64 (IntKind.i64.wrap (p.dst:Int)))]
  rw[o1,o2,g1,g2,g3,g4]
  rfl
 refine At 68 E ?_
 refine Ah (Aj [(0,69)] E F104 hput E Y E ⟨.inr E,Y⟩) E E ?_
 refine rg ?_;conv=>whnf
 refine Adk [69] hs F105 E (.cons (.row E E) .nil) E E E ?_
 refine rg ?_;conv=>whnf
 have hb1:=(List.cons.inj htb).1
 have hb2:=(List.cons.inj (List.cons.inj htb).2).1
 refine⟨by omega,?_⟩
 conv=>whnf
 refine⟨by decide,by rw[hil];decide,?_⟩
 conv=>whnf
 refine⟨E,by rw[hil];decide,UInt8.ofNat (s / 256),congrArg (fun z=>[z]) hb1,E,?_⟩
 conv=>whnf
 refine⟨by decide,by simp[hil],?_⟩
 conv=>whnf
 refine⟨E,by simp[hil],UInt8.ofNat s,congrArg (fun z=>[z]) hb2,E,?_⟩
 conv=>whnf
 refine Ah (Al Γ.toTy 84 E E E E E (.row E) .sl qx (by simp[hil];omega) (by simp[hil];omega)) E E ?_
 refine At 84 E ?_
 refine rg ?_;conv=>whnf
 exact Ac E (.cons .tmp (.cons .tmp .nil)) E E
theorem Vl (n:Nat):IntKind.u8.wrap (n:Int)=((UInt8.ofNat n).toNat:Int):=Aoh n
theorem Ah4 (p:PacketM) (hp:PacketOK p) (hb:p.body.length<100000):Sy.Spec Tryz.prog 48 [Lu p] [] (.tup [.sl 1 Ai (ipPutT p).1,Aa (ipPutT p).2]) []:=Ab Γ hm 100 F48 Tryz.ntmps48 rfl fun F hF=>by
 have hres:=ipPutT.eq_1 p
 generalize ipPutT p=res at *
 have h1:=hp.tos
 have h2:=hp.id
 have h3:=hp.ttl
 have h4:=hp.proto
 have h5:=hp.src
 have h6:=hp.dst
 conv=>whnf
 refine Ag (Am9 p.tos 255 qn) F107 E E E E E ?_
 (refine rg ?_;(conv=>whnf);refine aF ?_;refine rg ?_;conv=>whnf)
 refine Ag (Am9 p.ttl 255 qn) F107 E E E E E ?_
 (refine rg ?_;(conv=>whnf);refine aF ?_;refine rg ?_;conv=>whnf)
 refine Ag (Am9 p.proto 255 qn) F107 E E E E E ?_
 (refine rg ?_;(conv=>whnf);refine aF ?_;refine rg ?_;conv=>whnf)
 refine Ag (Am9 p.id 65535 qn) F107 E E E E E ?_
 (refine rg ?_;(conv=>whnf);refine aF ?_;refine rg ?_;conv=>whnf)
 refine⟨fun h=>?_,fun h=>?_⟩
 ·rw[if_pos (by have:=of_decide_eq_true h;omega)]at hres
  subst hres
  refine rg ?_;conv=>whnf
  refine Ao 2 1 Ai E ?_
  exact Ac E (.cons .tmp (.cons .tmp .nil)) E E
 have hl:p.body.length≤1480:=by have:=of_decide_eq_false h;omega
 rw[if_neg qn]at hres
 subst hres
 clear h
 have hall:=Acr hp
 have hsum:=Acq hp hl
 have h2l:=Ly p
 have hs:=Ah2 (Mp p) (by rw[h2l];decide) (by rw[h2l])
 rw[hsum]at hs
 have hsl:J3 p≤65535:=Nat.sub_le _ _
 have hby:Sb p=[69,UInt8.ofNat p.tos]++be 2 (20+p.body.length)++be 2 p.id++[0,0,UInt8.ofNat p.ttl,UInt8.ofNat p.proto]++be 2 (J3 p)++(be 4 p.src++be 4 p.dst)++p.body:=by rw[hall,Sb]
 rw[hby]
 clear hby hall
 generalize J3 p=s at *
 have g2:=U6 p.src h5
 have g4:=U6 p.dst h6
 have b2:=Jw p.src 4 qn qx
 have b4:=Jw p.dst 4 qn qx
 rw[← g2]at b2
 rw[← g4]at b4
 have hu1:=Vl p.tos
 have hu3:=Vl p.ttl
 have hu4:=Vl p.proto
 have hm1:[69,UInt8.ofNat p.tos].map Ai=[SV.val (.int .u8 69),SV.val (.int .u8 (IntKind.u8.wrap (p.tos:Int)))]:=by rw[hu1];rfl
 have hm2:[0,0,UInt8.ofNat p.ttl,UInt8.ofNat p.proto].map Ai=[SV.val (.int .u8 0),SV.val (.int .u8 0),SV.val (.int .u8 (IntKind.u8.wrap (p.ttl:Int))),SV.val (.int .u8 (IntKind.u8.wrap (p.proto:Int)))]:=by rw[hu3,hu4];rfl
 refine rg ?_;conv=>whnf
 refine⟨by unfold I64;omega,?_⟩
 conv=>whnf
 refine Ah (Aj [(0,39)] E F108 (Jw (20+p.body.length) 2 qn qx) E Y E ⟨.inr E,Y⟩) E E ?_
 refine rg ?_;conv=>whnf
 refine Ah (Al Γ.toTy 40 E E E E E (.lit (e:=Ai) (l:=[69,UInt8.ofNat p.tos]) E hm1) (.row E) qx (by simp[Aw]) (by simp[Aw])) E E ?_
 refine rg ?_;conv=>whnf
 refine Ah (Aj [(0,44)] E F108 (Jw p.id 2 qn qx) E Y E ⟨.inr E,Y⟩) E E ?_
 refine rg ?_;conv=>whnf
 refine Ah (Al Γ.toTy 45 E E E E E (.row E) (.row E) qx (by simp[Aw]) (by simp[Aw])) E E ?_
 refine rg ?_;conv=>whnf
 refine Ah (Al Γ.toTy 54 E E E E E (.row E) (.lit (e:=Ai) (l:=[0,0,UInt8.ofNat p.ttl,UInt8.ofNat p.proto]) E hm2) qx (by simp[Aw]) (by simp[Aw])) E E ?_
 refine rg ?_;conv=>whnf
 refine Bo (Aj [(0,58)] E F108 b2 E Y E ⟨.inr E,Y⟩) qq E ?_
 refine rd qq ?_;conv=>whnf
 refine Bo (Aj [(0,62)] E F108 b4 E Y E ⟨.inr E,Y⟩) qq E ?_
 refine rd qq ?_;conv=>whnf
 refine Bo (Al Γ.toTy 63 E E E E E (.row E) (.row E) qx (by simp[Aw]) (by simp[Aw])) qq E ?_
 refine rd qq ?_;conv=>whnf
 refine⟨qq,?_⟩
 conv=>whnf
 refine Ah (Al Γ.toTy 66 E E E E E (.lit (e:=Ai) (l:=[]) E E) (.row E) qx (by simp[Aw]) (by simp[Aw])) E E ?_
 refine rg ?_;conv=>whnf
 refine Ah (Al Γ.toTy 68 E E E E E (.row E) (.row E) qx (by simp[Aw]) (by simp[Aw])) E E ?_
 refine rg ?_;conv=>whnf
 refine Adk [68] hs F109 E (.cons (.row ?_ E) .nil) E E E ?_
 ·rfl
 refine rg ?_;conv=>whnf
 refine Ah (Aj [(0,72)] E F108 (Jw s 2 qn qx) E Y E ⟨.inr E,Y⟩) E E ?_
 refine rg ?_;conv=>whnf
 refine Ah (Al Γ.toTy 73 E E E E E (.row E) (.row E) qx (by simp[Aw]) (by simp[Aw])) E E ?_
 refine rg ?_;conv=>whnf
 refine Ah (Al Γ.toTy 75 E E E E E (.row E) (.row E) qx (by simp[Aw]) (by simp[Aw])) E E ?_
 refine rg ?_;conv=>whnf
 refine Ah (Al Γ.toTy 79 E E E E E (.row E) .sl qx (by simp[Aw];omega) (by simp[Aw];omega)) E E ?_
 refine At 79 E ?_
 refine rg ?_;conv=>whnf
 exact Ac E (.cons .tmp (.cons .tmp .nil)) E E
def hop1 (p:PacketM):PacketM × Int:=if p.ttl≤1 then (noP,13) else (Aff p,0)
theorem ipHopS (p:PacketM) (hb:p.body.length<100000) (ht:p.ttl≤255):Sy.Spec Tryz.prog 298 [Lu p] [] (.tup [Lu (hop1 p).1,Aa (hop1 p).2]) []:=Ab Γ hm 100 F298 Tryz.ntmps298 rfl fun F hF=>by
 have hres:=hop1.eq_1 p
 generalize hop1 p=res at *
 have qc:=K1 p.body qn
 conv=>whnf
 refine⟨fun h=>?_,fun h=>?_⟩
 ·rw[if_pos (by have:=of_decide_eq_true h;omega)]at hres
  subst hres
  refine rg ?_;conv=>whnf
  refine Bc 2 zP E (.cons (.refl _) (.cons (.refl _) (.cons (.refl _) (.cons (.refl _) (.cons (.refl _) (.cons (.refl _) (.cons .nil .nil))))))) ?_
  exact Ac E (.cons (.cell E E E E) (.cons .tmp .nil)) E E
 have h2:¬ p.ttl≤1:=by have:=of_decide_eq_false h;omega
 rw[if_neg h2]at hres
 subst hres
 have e:((p.ttl-1:Nat):Int)=(p.ttl:Int)-1:=by omega
 refine rg ?_;conv=>whnf
 refine⟨by unfold I64;omega,?_⟩
 conv=>whnf
 refine Ag qc F290 E E E E E ?_
 refine rg ?_;conv=>whnf
 refine Ac E (.cons (.cell E E E E) (.cons .tmp .nil)) ?_ E
 show SV.tup [.agg [_,_,Aa ((p.ttl-1:Nat):Int),_,_,_,_],_]=SV.tup [.agg [_,_,Aa ((p.ttl:Int)-1),_,_,_,_],_]
 rw[e]
 rfl
end Go.Sy.YteinjapglfkamaaGreat
namespace Go.Sy
theorem Ag7 {C:Cx} {kk:List KI} {s:SS} (q:Nat) (r:List Nat) {sz:Nat} {α:Type} {e:α→SV} {l:List α} (h:s.h q=.row sz e l) (hl:l≠[]) (hr:∀ i∈r,s.σ i=.osl q)
  (hg:∀ b cap,l.length≤cap→G C kk ⟨freezeσ s.σ (.val (.slice (some ⟨b,0,none⟩) l.length cap)) r,upd s.h q (.pin b l.length cap sz e l)⟩):G C kk s:=fun κ a w hs=>by
 have hob:=hs.obj q
 rw[h]at hob
 rcases hob with ⟨_,h1⟩ | hrow
 ·exact absurd h1 hl
 obtain ⟨b,cap,cs,T,fr,e1,e2,e3,e4,e5,e6⟩:=hrow
 refine hg b cap e5 κ a w ⟨hs.defers,hs.size,hs.inv,hs.ctx,fun i=>?_,fun j=>?_⟩
 ·refine freezeσ_ok r _ i (hs.slot i) (fun hi=>?_)
  have:=hs.slot i
  rw[hr i hi]at this
  simp only[Rd,e1]at this
  simp only[Rd]
  exact this
 ·show ObOK κ w j (upd s.h q _ j)
  by_cases hj:j=q
  ·subst hj;rw[Bg];exact⟨e1,b,cap,cs,T,fr,e1,e2,e3,e4,e5,e6⟩
  ·rw[Bz _ _ hj];exact hs.obj j
theorem Ve {C:Cx} {kk:List KI} {s:SS} (q d:Nat) (r:List Nat) (m:Nat) {b n cap sz:Nat} {α:Type} {e:α→SV} {l:List α} (h:s.h q=.pin b n cap sz e l) (hd:s.h d=.fresh) (hm:m≤l.length)
  (hr:∀ i∈r,s.σ i=.val (.slice (some ⟨b,0,none⟩) m cap)) (hg:G C kk ⟨freezeσ s.σ (.osl d) r,upd (upd s.h q .non) d (.row sz e (l.take m))⟩):G C kk s:=fun κ a w hs=>by
 have hob:=hs.obj q
 rw[h]at hob
 have hnew:κ d=.new:=by have:=hs.obj d;rwa [hd]at this
 obtain ⟨e0,b',cap',cs,T,fr,e1,e2,e3,e4,e5,e6⟩:=hob
 rw[e0]at e1
 cases e1
 have hln:l.length≤n:=by
  by_cases h0:l.length=0
  ·omega
  ·have:=(e6 (l.length-1) _ ⟨by omega,rfl⟩).1
   omega
 obtain ⟨st,inv⟩:=Jp (n':=m) (w':=w) hs.inv e0 hnew rfl rfl rfl rfl (fun _ _=>rfl)
 have hlt:(l.take m).length=m:=by rw[List.length_take];omega
 refine hg _ a w ⟨hs.defers,hs.size,inv,hs.ctx.step inv st,fun j=>?_,fun j=>?_⟩
 ·refine freezeσ_ok r _ j (Rd.step st _ _ (hs.slot j)) (fun hj=>?_)
  have:=hs.slot j
  rw[hr j hj]at this
  simp only[Rd]at this
  simp[Rd,Aq,this]
 ·show ObOK _ w j (upd (upd s.h q .non) d _ j)
  by_cases hj:j=d
  ·subst hj;rw[Bg]
   refine .inr ⟨b,cap,cs,T,fr,by rw[Aq,hlt],e2,e3,e4,by omega,fun i x hx=>?_⟩
   obtain ⟨hi,rfl⟩:=hx
   obtain ⟨_,u,q2,q3⟩:=e6 i (e l[i]) ⟨by omega,rfl⟩
   refine⟨hi,u,?_,q3⟩
   rw[List.getElem_take]
   exact RdD.keep st.keeps _ _ q2
  ·rw[Bz _ _ hj]
   by_cases hj2:j=q
   ·subst hj2;rw[Bg];trivial
   ·rw[Bz _ _ hj2];exact ObOK.step st (fun e=>e.elim hj2 hj) _ (hs.obj j)
theorem Cr {P:Program} (Γ:Ty P) {o:Oper} {s:SS} {t:TypeId} {ti:TI} {et:TypeId} {sz eb b n cap lo hi:Nat} {ez:List Value} {x:Operand} {lx hx:Option Operand}
  (h:o.op=.slice t x lx hx none) (ht:Γ.get t=some ti) (hk:ti.k=.slice et sz eb ez) (hxe:ev s x=.val (.slice (some ⟨b,0,none⟩) n cap)) (hlo:BoundIs s lx 0 lo) (hhi:BoundIs s hx n hi) (h1:lo≤hi) (h2:hi≤cap) :
  Good P o s ⟨.val (.slice (some (if cap=lo then ⟨b,0,none⟩ else ⟨b,lo * sz,none⟩)) (hi-lo) (cap-lo)),[],[]⟩ :=
 Good.pure fun κ a w _ hr _=>by
  have r1:=hr x (by simp[h,Op.operands])
  rw[hxe]at r1
  obtain ⟨hu,i,zv,q1,q2,q3,q4,q5⟩:=B0 Γ ht hk
  have b1:=hlo.val (a:=a) (fun y hy=>hr y (by simp[h,Op.operands,hy]))
  have b2:=hhi.val (a:=a) (fun y hy=>hr y (by simp[h,Op.operands,hy]))
  have hb:=El (P:=P) w (len:=n) (cap:=cap) b1 b2 h1 h2
  refine⟨.slice (some (if cap=lo then ⟨b,0,none⟩ else ⟨b,lo * sz,none⟩)) (hi-lo) (cap-lo),?_,by simp only[Rd]⟩
  by_cases hc:cap=lo
  ·subst hc
   simp[execOp,h,r1.val,Instr.sliceAt,Instr.slice,run_underlying hu,hb,sizeOf,typeInfo,q1]
  ·simp[execOp,h,r1.val,Instr.sliceAt,Instr.slice,run_underlying hu,hb,sizeOf,typeInfo,q1,q2,hc,Addr.add_lit]
theorem X0 {P:Program} (Γ:Ty P) {o:Oper} {s:SS} {t:TypeId} {ti:TI} {et:TypeId} {sz eb b n cap lo hi mm:Nat} {ez:List Value} {x:Operand} {lx hx mx:Operand} {k1 k2 k3:IntKind}
  (h:o.op=.slice t x (some lx) (some hx) (some mx)) (ht:Γ.get t=some ti) (hk:ti.k=.slice et sz eb ez) (hxe:ev s x=.val (.slice (some ⟨b,0,none⟩) n cap)) (hlo:ev s lx=.val (.int k1 lo)) (hhi:ev s hx=.val (.int k2 hi)) (hmx:ev s mx=.val (.int k3 mm))
  (h1:lo≤hi) (h2:hi≤mm) (h3:mm≤cap):Good P o s ⟨.top,[],[]⟩ :=
 Good.pure fun κ a w _ hr _=>by
  have r1:=hr x (by simp[h,Op.operands])
  have r2:=hr lx (by simp[h,Op.operands])
  have r3:=hr hx (by simp[h,Op.operands])
  have r4:=hr mx (by simp[h,Op.operands])
  rw[hxe]at r1
  rw[hlo]at r2
  rw[hhi]at r3
  rw[hmx]at r4
  obtain ⟨hu,i,zv,q1,q2,q3,q4,q5⟩:=B0 Γ ht hk
  have hb:(Instr.sliceBounds true n cap (some (a.eval lx)) (some (a.eval hx)) (some (a.eval mx))).run P w=.ok (lo,hi,mm) w:=by
   rw[r2.val,r3.val,r4.val]
   simp[Instr.sliceBounds,Instr.sliceBound,asIntOf,h1,h2,h3]
  refine⟨.slice (some (if mm=lo then ⟨b,0,none⟩ else ⟨b,lo * sz,none⟩)) (hi-lo) (mm-lo),?_,by simp only[Rd,RdD]⟩
  by_cases hc:mm=lo
  ·subst hc
   simp[execOp,h,r1.val,Instr.sliceAt,Instr.slice,run_underlying hu,hb,sizeOf,typeInfo,q1]
  ·simp[execOp,h,r1.val,Instr.sliceAt,Instr.slice,run_underlying hu,hb,sizeOf,typeInfo,q1,q2,hc,Addr.add_lit]
theorem Lj {κ:Ka} {w w':World} {k b n cap:Nat} (hi:Inv κ w) (hk:κ k=.row b n cap) (hos:w'.os=w.os) (ht:w'.tape=w.tape) (ho:w'.output=w.output)
  (hs:w'.heap.size=w.heap.size) (hb:∀ i,i≠b→w'.heap[i]? = w.heap[i]?):Step (fun j=>j=k) κ w κ w'∧Inv κ w':=by
 have hkb:(κ k).block? = some b:=by rw[hk];rfl
 refine⟨⟨by omega,hos,ht,ho,E,fun c hm=>hb c (fun e=>hi.apart k b hkb (e ▸ hm)),fun c _ hn=>hb c (fun e=>hn (.inl ⟨k,e ▸ hkb⟩)),fun j c hj hjc=>hb c (fun e=>hj ?_),fun _ _=>rfl,fun _ _=>.inr (.inl E),fun _ h=>.inl h⟩,
  ⟨hi.inj,fun j c h=>by rw[hs];exact hi.bnd j c h,hi.apart,fun c h=>by rw[hs];exact hi.mbnd c h⟩⟩
 subst e
 exact hi.inj j k _ hjc hkb
theorem Abi {cs:List Value} {sz n:Nat} (h:∀ i,i<n→∃ u:Value,u.cells.size=sz∧Ones u.cells.toList∧∀ j,j<sz→cs[i * sz+j]? = u.cells[j]?) {p:Nat} (hp:p<n * sz) {v:Value} (hv:cs[p]? = some v):v.oneCell'=true:=by
 have h0:0<sz:=by
  rcases Nat.eq_zero_or_pos sz with rfl | h
  ·simp at hp
  ·exact h
 obtain ⟨u,h1,h2,h3⟩:=h (p / sz) (Nat.div_lt_of_lt_mul (by rw[Nat.mul_comm];exact hp))
 have h4:=h3 (p % sz) (Nat.mod_lt _ h0)
 rw[Nat.mul_comm,Nat.div_add_mod,hv]at h4
 obtain ⟨hl,he⟩:=Array.getElem?_eq_some_iff.1 h4.symm
 refine h2 v ?_
 rw[← he]
 exact Array.getElem_mem_toList hl
theorem Uz {P:Program} (Γ:Ty P) {o:Oper} {s:SS} (q:Nat) {t:TypeId} {ti:TI} {et:TypeId} {sz eb b n cap i j:Nat} {ez:List Value} {x y:Operand} {α:Type} {e:α→SV} {l:List α} {B:Option Addr} {c:Nat}
  (h:o.op=.call ⟨.builtin .append,#[x,y],#[t,t]⟩) (ht:Γ.get t=some ti) (hk:ti.k=.slice et sz eb ez) (hx:ev s x=.val (.slice (some ⟨b,0,none⟩) i cap))
  (hy:ev s y=.val (.slice B (n-j) c)) (hB:B=some (if cap=j then ⟨b,0,none⟩ else ⟨b,j * sz,none⟩)) (hob:s.h q=.pin b n cap sz e l) (hl:l.length=n) (hij:i≤j) (hj:j≤n) :
  Good P o s ⟨.val (.slice (some ⟨b,0,none⟩) (i+(n-j)) cap),[],[(q,.pin b n cap sz e (l.take i++l.drop j))]⟩:=by
 intro κ a w hinv hr ho N Q hN
 have r1:=hr x (by simp[h,Op.operands,Call.operands])
 have r2:=hr y (by simp[h,Op.operands,Call.operands])
 rw[hx]at r1
 rw[hy]at r2
 subst hB
 have hq:=ho q (.inr (by simp[Up.ws]))
 rw[hob]at hq
 obtain ⟨e0,b',cap',cs,T,fr,e1,e2,e3,e4,e5,e6⟩:=hq
 rw[e0]at e1
 cases e1
 obtain ⟨hu,ii,zv,q1,q2,q3,q4,q5⟩:=B0 Γ ht hk
 have hall:∀ i,i<n→∃ u:Value,u.cells.size=sz∧Ones u.cells.toList∧∀ j,j<sz→cs[i * sz+j]? = u.cells[j]?:=fun i hi=>by
  obtain ⟨_,u,_,u2⟩:=e6 i (e l[i]) ⟨by omega,rfl⟩
  exact⟨u,u2⟩
 obtain ⟨news,hnews⟩:∃ news,news=(cs.drop (j * sz)).take ((n-j) * sz):=⟨_,rfl⟩
 have hmul:(n-j) * sz+j * sz=n * sz:=by rw[← Nat.add_mul];congr 1;omega
 have hnc:n * sz≤cap * sz:=Nat.mul_le_mul_right sz e5
 have hijs:i * sz≤j * sz:=Nat.mul_le_mul_right sz hij
 have hnl:news.length=(n-j) * sz:=by rw[hnews,List.length_take,List.length_drop];omega
 have hget:∀ p,p<(n-j) * sz→news[p]? = cs[j * sz+p]?:=fun p hp=>by
  rw[hnews,List.getElem?_take,if_pos hp,List.getElem?_drop]
 have hones:Ones news:=fun v hv=>by
  obtain ⟨p,hp,he⟩:=List.getElem_of_mem hv
  have h1:news[p]? = some v:=by rw[List.getElem?_eq_getElem hp,he]
  rw[hnl]at hp
  rw[hget p hp]at h1
  exact Abi hall qn h1
 obtain ⟨w',f1,f2,f3,f4,f5,f6,f7⟩:=Cc P b (i * sz) T fr news 0 cs w e2 e3 qn hones
 obtain ⟨st,inv⟩:=Lj hinv e0 f3 f4 f5 f6 f7
 have hroom:i+(n-j)≤cap:=by omega
 have hcell:∀ p v,cs[p]? = some v→w.cell? ⟨b,p,none⟩=some v:=fun p v hp=>by
  simp[World.cell?,e2,hp]
 have hc:(Builtin.firstCells sz (n-j) (.slice (some (if cap=j then ⟨b,0,none⟩ else ⟨b,j * sz,none⟩)) (n-j) c)).run P w=.ok news.toArray w:=by
  by_cases hcj:cap=j
  ·have h0:n-j=0:=by omega
   rw[if_pos hcj,h0]
   have h1:news=[]:=by rw[h0]at hnl;simpa using hnl
   rw[h1]
   exact run_firstCells_some (P:=P) w sz 0 ⟨b,0,none⟩ 0 c [] qy (fun j v hj=>by simp at hj)
  ·rw[if_neg hcj]
   refine run_firstCells_some (P:=P) w sz (n-j) ⟨b,j * sz,none⟩ (n-j) c news hnl (fun p v hp=>?_)
   rw[Addr.add_lit]
   have hlt:p<(n-j) * sz:=by
    rw[← hnl];exact(List.getElem?_eq_some_iff.1 hp).1
   rw[hget p hlt]at hp
   exact hcell _ _ hp
 have hrun:(execOp a.eval o).run P w=.ok (.value (.slice (some ⟨b,0,none⟩) (i+(n-j)) cap)) w':=by
  simp[execOp,h,resolve,invoke,builtin,Builtin.append_,r1.val,r2.val,run_underlying hu,sizeOf,typeInfo,q1,q2,Builtin.lenOf,hroom,hc,Addr.add_lit,f1]
 simp only[Oper.wp,hrun,Oper.upon]
 refine hN _ κ w' (st.weaken (fun k hk=>by subst hk;simp[Up.ws])) inv (by simp only[Rd]) (fun p hp=>?_)
 simp only[List.mem_singleton]at hp
 subst hp
 refine⟨e0,b,cap,_,T,fr,e0,f2,by rw[Br];exact e3,by rw[Br];exact e4,e5,?_⟩
 rintro k z ⟨hk0,rfl⟩
 have hset:=Id cs news (i * sz+0)
 have hlen:(l.take i++l.drop j).length=i+(n-j):=by rw[List.length_append,List.length_take,List.length_drop];omega
 rw[hlen]at hk0
 by_cases hki:k<i
 ·obtain ⟨_,u,u1,u2,u3,u4⟩:=e6 k (e l[k]) ⟨by omega,rfl⟩
  have:(k+1) * sz≤i * sz:=Nat.mul_le_mul_right sz qn
  rw[Nat.add_mul,Nat.one_mul]at this
  refine⟨by omega,u,?_,u2,u3,fun p hp=>?_⟩
  ·rw[List.getElem_append_left (by rw[List.length_take];omega),List.getElem_take]
   exact RdD.keep st.keeps _ _ u1
  ·rw[hset _ qn,if_neg qn,u4 p hp]
 ·obtain ⟨_,u,u1,u2,u3,u4⟩:=e6 (j+(k-i)) (e l[j+(k-i)]) ⟨by omega,rfl⟩
  have hks:k * sz=i * sz+(k-i) * sz:=by rw[← Nat.add_mul];congr 1;omega
  have hjs:(j+(k-i)) * sz=j * sz+(k-i) * sz:=by rw[← Nat.add_mul]
  have:(k-i+1) * sz≤(n-j) * sz:=Nat.mul_le_mul_right sz qn
  rw[Nat.add_mul,Nat.one_mul]at this
  refine⟨by omega,u,?_,u2,u3,fun p hp=>?_⟩
  ·rw[List.getElem_append_right (by rw[List.length_take];omega),List.getElem_drop]
   have hidx:j+(k-(l.take i).length)=j+(k-i):=by rw[List.length_take];omega
   simp only[hidx]
   exact RdD.keep st.keeps _ _ u1
  ·rw[hset _ qn,if_pos qn,← u4 p hp,hjs]
   rw[show k * sz+p-(i * sz+0)=(k-i) * sz+p by omega,hget _ qn]
   congr 1
   omega
theorem Ir {P:Program} (Γ:Ty P) {o:Oper} {s:SS} (q:Nat) {t:TypeId} {ti:TI} {et:TypeId} {sz eb b n cap k m c:Nat} {ez:List Value} {x:Operand} {α:Type} {e:α→SV} {l:List α} {B:Option Addr}
  (h:o.op=.call ⟨.builtin .clear,#[x],#[t]⟩) (ht:Γ.get t=some ti) (hk:ti.k=.slice et sz eb ez) (hez:ez.length=sz) (hz1:∀ v∈ez,v.oneCell'=true) (hx:ev s x=.val (.slice B m c)) (hB:B=some (if cap=k then ⟨b,0,none⟩ else ⟨b,k * sz,none⟩))
  (hob:s.h q=.pin b n cap sz e l) (hkl:k≤l.length) (hm:k+m≤cap) :
  Good P o s ⟨.tup [],[],[(q,.pin b n cap sz e (l.take k))]⟩:=by
 intro κ a w hinv hr ho N Q hN
 have r1:=hr x (by simp[h,Op.operands,Call.operands])
 rw[hx]at r1
 subst hB
 have hq:=ho q (.inr (by simp[Up.ws]))
 rw[hob]at hq
 obtain ⟨e0,b',cap',cs,T,fr,e1,e2,e3,e4,e5,e6⟩:=hq
 rw[e0]at e1
 cases e1
 obtain ⟨hu,ii,zv,q1,q2,q3,q4,q5⟩:=B0 Γ ht hk
 have hzs:zv.cells.size=sz:=by rw[← hez,← q5];simp
 have hlt:(l.take k).length=k:=by rw[List.length_take];omega
 by_cases hm0:m=0
 ·subst hm0
  have hrun:(execOp a.eval o).run P w=.ok (.value (.tuple #[])) w:=by
   simp[execOp,h,resolve,invoke,builtin,Builtin.clear_,r1.val,run_underlying hu]
  simp only[Oper.wp,hrun,Oper.upon]
  refine hN _ κ w (Step.refl _ κ w) hinv (by simp[Rd,RdL]) (fun p hp=>?_)
  simp only[List.mem_singleton]at hp
  subst hp
  refine⟨e0,b,cap,cs,T,fr,e0,e2,e3,e4,e5,?_⟩
  rintro p z ⟨hp0,rfl⟩
  rw[List.getElem_take]
  exact e6 p (e l[p]) ⟨by omega,E⟩
 obtain ⟨m,rfl⟩:∃ p,m=p+1:=⟨m-1,by omega⟩
 rw[if_neg qn]at r1
 obtain ⟨news,hnews⟩:∃ news,news=(Builtin.zeroCells zv.cells (m+1)).toList:=⟨_,rfl⟩
 have hnl:news.length=(m+1) * sz:=by rw[hnews,Array.length_toList,Of,hzs]
 have hones:Ones news:=fun v hv=>by
  rw[hnews,Array.mem_toList_iff]at hv
  refine hz1 v ?_
  rw[← q5]
  simp only[Builtin.zeroCells,Array.mem_map,Array.mem_range]at hv
  obtain ⟨p,hp,rfl⟩:=hv
  have h0:0<zv.cells.size:=by
   rcases Nat.eq_zero_or_pos zv.cells.size with h | h
   ·rw[h]at hp;simp at hp
   ·exact h
  have hlt2:p % zv.cells.size<zv.cells.size:=Nat.mod_lt _ h0
  rw[getElem!_pos zv.cells _ hlt2]
  exact Array.getElem_mem_toList hlt2
 have hmul:k * sz+(m+1) * sz≤cap * sz:=by rw[← Nat.add_mul];exact Nat.mul_le_mul_right sz hm
 obtain ⟨w',f1,f2,f3,f4,f5,f6,f7⟩:=Cc P b (k * sz) T fr news 0 cs w e2 e3 qn hones
 obtain ⟨st,inv⟩:=Lj hinv e0 f3 f4 f5 f6 f7
 have hrun:(execOp a.eval o).run P w=.ok (.value (.tuple #[])) w':=by
  simp[execOp,h,resolve,invoke,builtin,Builtin.clear_,r1.val,run_underlying hu,zeroValue,typeInfo,q1,q4,← hnews,f1]
 simp only[Oper.wp,hrun,Oper.upon]
 refine hN _ κ w' (st.weaken (fun k hk=>by subst hk;simp[Up.ws])) inv (by simp[Rd,RdL]) (fun p hp=>?_)
 simp only[List.mem_singleton]at hp
 subst hp
 refine⟨e0,b,cap,_,T,fr,e0,f2,by rw[Br];exact e3,by rw[Br];exact e4,e5,?_⟩
 rintro p z ⟨hp0,rfl⟩
 have hset:=Id cs news (k * sz+0)
 obtain ⟨h0,u,u1,u2,u3,u4⟩:=e6 p (e l[p]) ⟨by omega,rfl⟩
 have:(p+1) * sz≤k * sz:=Nat.mul_le_mul_right sz qn
 rw[Nat.add_mul,Nat.one_mul]at this
 refine⟨h0,u,?_,u2,u3,fun j hj=>?_⟩
 ·rw[List.getElem_take]
  exact RdD.keep st.keeps _ _ u1
 ·have hcl:k * sz≤cs.length:=by omega
  rw[hset _ qn,if_neg qn,u4 j hj]
theorem G_dat {C:Cx} {kk:List KI} {s:SS} (i q:Nat) {sz:Nat} {α:Type} {e:α→SV} {l:List α} (h:s.σ i=.sl sz e l) (hl:l≠[])
  (hg:∀ b off cap,l.length≤cap→G C kk ⟨upd s.σ i (.val (.slice (some ⟨b,off,none⟩) l.length cap)),upd s.h q (.dat (.slice (some ⟨b,off,none⟩) l.length cap) sz e l)⟩):G C kk s:=fun κ a w hs=>by
 have h1:=hs.slot i
 rw[h]at h1
 have h1':=h1
 simp only[Rd,RdD]at h1
 rcases h1 with ⟨h2,_⟩ | ⟨b,off,cap,h2,h3,_⟩
 ·exact absurd h2 hl
 ·refine hg b off cap h3 κ a w ⟨hs.defers,hs.size,hs.inv,hs.ctx,fun j=>?_,fun j=>?_⟩
  ·show Rd κ w (upd s.σ i (.val (.slice (some ⟨b,off,none⟩) l.length cap)) j) _
   by_cases hj:j=i
   ·subst hj;rw[Bg];simp only[Rd];exact h2
   ·rw[Bz _ _ hj];exact hs.slot j
  ·show ObOK κ w j (upd s.h q (.dat (.slice (some ⟨b,off,none⟩) l.length cap) sz e l) j)
   by_cases hj:j=q
   ·subst hj;rw[Bg];rw[h2]at h1';exact h1'
   ·rw[Bz _ _ hj];exact hs.obj j
theorem X1 {P:Program} (Γ:Ty P) {o:Oper} {s:SS} {t:TypeId} {ti:TI} {et:TypeId} {sz eb b off n cap hi:Nat} {ez:List Value} {x hx mx:Operand} {k2 k3:IntKind}
  (h:o.op=.slice t x none (some hx) (some mx)) (ht:Γ.get t=some ti) (hk:ti.k=.slice et sz eb ez) (hxe:ev s x=.val (.slice (some ⟨b,off,none⟩) n cap)) (hhi:ev s hx=.val (.int k2 hi)) (hmx:ev s mx=.val (.int k3 hi))
  (h3:hi≤cap):Good P o s ⟨.val (.slice (some ⟨b,off,none⟩) hi hi),[],[]⟩ :=
 Good.pure fun κ a w _ hr _=>by
  have r1:=hr x (by simp[h,Op.operands])
  have r3:=hr hx (by simp[h,Op.operands])
  have r4:=hr mx (by simp[h,Op.operands])
  rw[hxe]at r1
  rw[hhi]at r3
  rw[hmx]at r4
  obtain ⟨hu,i,zv,q1,q2,q3,q4,q5⟩:=B0 Γ ht hk
  have hb:(Instr.sliceBounds true n cap none (some (a.eval hx)) (some (a.eval mx))).run P w=.ok (0,hi,hi) w:=by
   rw[r3.val,r4.val]
   simp[Instr.sliceBounds,Instr.sliceBound,asIntOf,h3]
  refine⟨.slice (some ⟨b,off,none⟩) hi hi,?_,by simp only[Rd]⟩
  by_cases hc:hi=0
  ·subst hc
   simp[execOp,h,r1.val,Instr.sliceAt,Instr.slice,run_underlying hu,hb,sizeOf,typeInfo,q1]
  ·simp[execOp,h,r1.val,Instr.sliceAt,Instr.slice,run_underlying hu,hb,sizeOf,typeInfo,q1,q2,hc,Addr.add_lit]
theorem X7 {P:Program} (Γ:Ty P) {o:Oper} {s:SS} (q:Nat) {t:TypeId} {ti:TI} {et:TypeId} {sz eb b off n cap:Nat} {ez:List Value} {x y:Operand} {α:Type} {e:α→SV} {l l':List α}
  (h:o.op=.call ⟨.builtin .append,#[x,y],#[t,t]⟩) (ht:Γ.get t=some ti) (hk:ti.k=.slice et sz eb ez) (hez:ez.length=sz) (hx:ev s x=.val (.slice (some ⟨b,off,none⟩) n n))
  (hq:s.h q=.dat (.slice (some ⟨b,off,none⟩) l.length cap) sz e l) (hn:n≤l.length) (hy:ev s y=.sl sz e l') (hbytes:(n+l'.length) * eb≤140737488355328) (h63:n+l'.length≤9223372036854775807) :
  Good P o s ⟨.sl sz e (l.take n++l'),[q],[]⟩:=by
 intro κ a w hinv hr ho N Q hN
 have r1:=hr x (by simp[h,Op.operands,Call.operands])
 have r2:=hr y (by simp[h,Op.operands,Call.operands])
 rw[hx]at r1
 rw[hy]at r2
 have hq1:=ho q (.inl qy)
 rw[hq]at hq1
 have hq1:Rd κ w (.sl sz e l) (.slice (some ⟨b,off,none⟩) l.length cap):=hq1
 obtain ⟨hu,ii,zv,q1,q2,q3,q4,q5⟩:=B0 Γ ht hk
 have hzs:zv.cells.size=sz:=by rw[← hez,← q5];simp
 have htl:(l.take n).length=n:=by rw[List.length_take];omega
 have hbase:Rd κ w (.sl sz e (l.take n)) (.slice (some ⟨b,off,none⟩) n n):=by
  simp only[Rd,RdD]at hq1 ⊢
  rcases hq1 with ⟨h0,_⟩ | ⟨b2,off2,cap2,h2,h3,h4,h5,h6⟩
  ·have hn0:n=0:=by rw[h0]at hn;simpa using hn
   subst hn0
   exact .inl ⟨by simp,_,_,E⟩
  ·cases h2
   refine .inr ⟨b,off,n,by rw[htl],by rw[htl];exact Nat.le_refl _,h4,h5,fun i hi=>?_⟩
   obtain ⟨u,h7,h8⟩:=h6 i qn
   exact⟨u,by rw[List.getElem_take];exact h7,h8⟩
 have hrb:=hbase.src
 have hru:=r2.src
 rw[htl]at hrb
 obtain ⟨m,hm⟩:∃ m,l'.length=m:=⟨_,rfl⟩
 rw[hm]at hru hbytes h63
 generalize hve:a.eval y=u at *
 obtain ⟨ad,c,news,hu2,hnl,hn1,hnc,hng⟩:∃ (a:Option Addr) (c:Nat) (news:List Value),u=.slice a m c∧news.length=m * sz∧Ones news∧(∀ W:World,(∀ p:Addr,p.block<w.heap.size→W.cell? p=w.cell? p)→(Builtin.firstCells sz m u).run P W=.ok news.toArray W) ∧
   (∀ j x,rowF e l' j x→j<m∧∃ q:Value,RdD (Own κ) w x q∧q.cells.size=sz∧Ones q.cells.toList∧∀ l,l<sz→news[j * sz+l]? = q.cells[l]?):=by
  rcases hru with ⟨rfl,hno,a,c,rfl⟩ | ⟨b,o,c,news,rfl,h1,h2,h3,h4⟩
  ·refine⟨a,c,[],E,by simp,by simp[Ones],fun W _=>?_,fun j x h=>absurd h (hno j x)⟩
   cases a<;>simp[Builtin.firstCells,loadCells,loadCellsFrom]
  ·refine⟨some ⟨b,o,none⟩,c,news,E,h1,h2,fun W hW=>?_,fun j x hx=>h4 j x hx⟩
   exact run_firstCells_some (P:=P) W sz m ⟨b,o,none⟩ m c news h1 (fun j q hj=>by
    rw[Addr.add_lit]
    have h5:=h3 j q hj
    rw[hW _ (by exact World.block_lt_of_cell? w _ h5),h5])
 subst hu2
 by_cases hm0:m=0
 ·subst hm0
  have hl':l'=[]:=List.eq_nil_of_length_eq_zero hm
  subst hl'
  have hc:=hnc w (fun _ _=>rfl)
  have hnn:news=[]:=by simpa using hnl
  subst hnn
  have hrun:(execOp a.eval o).run P w=.ok (.value (.slice (some ⟨b,off,none⟩) n n)) w:=by
   simp[execOp,h,resolve,invoke,builtin,Builtin.append_,r1.val,hve,run_underlying hu,sizeOf,typeInfo,q1,q2,Builtin.lenOf,hc,storeCells]
  simp only[Oper.wp,hrun,Oper.upon]
  refine hN _ κ w (Step.refl _ κ w) hinv ?_ (fun p hp=>by cases hp)
  rw[List.append_nil]
  exact hbase
 obtain ⟨olds,hol,hof,hfo⟩:∃ olds:List Value,olds.length=n * sz∧(∀ j x,rowF e (l.take n) j x→j<n→∃ q:Value,RdD (Own κ) w x q∧q.cells.size=sz∧Ones q.cells.toList∧∀ l,l<sz→olds[j * sz+l]? = q.cells[l]?) ∧
   (Builtin.firstCells sz n (.slice (some ⟨b,off,none⟩) n n)).run P w.drew=.ok olds.toArray w.drew:=by
  rcases hrb with ⟨rfl,hno,_⟩ | ⟨b2,o2,c2,olds,he,g1,g2,g3,g4⟩
  ·exact⟨[],by simp,fun j x _ hj=>absurd hj qn,run_firstCells_some (P:=P) w.drew sz 0 ⟨b,off,none⟩ 0 0 [] qy (fun j v hj=>by simp at hj)⟩
  ·cases he
   exact⟨olds,g1,fun j x hx _=>(g4 j x hx).2,run_firstCells_some (P:=P) w.drew sz n ⟨b,off,none⟩ n n olds g1 (fun j v hj=>by
    have:=g3 j v hj
    rw[Addr.add_lit];simpa using this)⟩
 have hcap:n+m≤grownCap w (n+m) n et:=grownCap_ge w (n+m) n et
 have h48:¬ (281474976710656<Builtin.nextslicecap (n+m) n * ii.bytes):=by
  have:=growslice_fits (need:=n+m) (old:=n) (bytes:=ii.bytes) qn (by rw[q3];exact hbytes)
  omega
 have h63':¬ (9223372036854775807<(n:Int)+(m:Int)):=by omega
 have hroom:¬ n+m≤n:=by omega
 have hc:=hnc w.drew (fun _ _=>rfl)
 obtain ⟨w',hw'⟩:∃ w',w.drew.alloc (.cells (olds.toArray++news.toArray++Builtin.zeroCells zv.cells (grownCap w (n+m) n et-(n+m))) et)=w':=⟨_,rfl⟩
 have hrun:(execOp a.eval o).run P w=.ok (.value (.slice (some ⟨w.heap.size,0,none⟩) (n+m) (grownCap w (n+m) n et))) w':=by
  rw[← hw']
  simp[execOp,h,resolve,invoke,builtin,Builtin.append_,r1.val,hve,run_underlying hu,sizeOf,typeInfo,zeroValue,q4,q1,q2,Builtin.lenOf,hm0,h63',h48,Question.forced,hfo,hc,newRow,grownCap]
  rw[if_neg hroom]
  have ea:∀ Z:Array Value,olds.toArray++(news.toArray++Z)=(olds++news).toArray++Z:=fun Z=>by apply Array.ext';simp
  rw[ea]
 have g0:Grew w w':=by rw[← hw'];exact(Grew.drew w).trans (Grew.alloc _ _)
 obtain ⟨st,inv⟩:=Ahi hinv g0
 have hblk:w'.heap[w.heap.size]? = some (.cells (olds++news++(Builtin.zeroCells zv.cells (grownCap w (n+m) n et-(n+m))).toList).toArray et):=by
  rw[← hw']
  have:(w.drew.alloc (.cells (olds.toArray++news.toArray++Builtin.zeroCells zv.cells (grownCap w (n+m) n et-(n+m))) et)).heap[w.heap.size]? = some (.cells (olds.toArray++news.toArray++Builtin.zeroCells zv.cells (grownCap w (n+m) n et-(n+m))) et):=heap_alloc_new w.drew _
  rw[this]
  congr 2
  apply Array.ext'
  simp
 have hsz:w.heap.size<w'.heap.size:=by rw[← hw'];simp
 simp only[Oper.wp,hrun,Oper.upon]
 refine hN _ κ w' (st.weaken (fun _ h=>h.elim)) inv ?_ (fun p hp=>by cases hp)
 simp only[Rd,RdD]
 have hlen:(l.take n++l').length=n+m:=by rw[List.length_append,htl,hm]
 refine .inr ⟨w.heap.size,0,grownCap w (n+m) n et,by rw[hlen],by rw[hlen];exact hcap,?_,hsz,fun j hj=>?_⟩
 ·rintro (⟨k,hk⟩ | hk)
  ·exact Nat.lt_irrefl _ (hinv.bnd k _ hk)
  ·exact Nat.lt_irrefl _ (hinv.mbnd _ hk)
 ·rw[hlen]at hj
  by_cases hjn:j<n
  ·obtain ⟨qv,g1,g2,g3,g4⟩:=hof j (e (l.take n)[j]) ⟨by omega,rfl⟩ hjn
   refine⟨qv,by rw[List.getElem_append_left qn];exact RdD.keep st.keeps _ _ g1,g2,g3,fun p hp=>?_⟩
   have:(j+1) * sz≤n * sz:=Nat.mul_le_mul_right sz qn
   rw[Nat.add_mul,Nat.one_mul]at this
   rw[cell_of_row w' _ _ _ et (0,0) hblk,List.getElem?_toArray,List.append_assoc,List.getElem?_append_left qn,Nat.zero_add]
   exact g4 p hp
  ·obtain ⟨_,qv,g1,g2,g3,g4⟩:=hng (j-n) (e (l'[j-n]'qn)) ⟨by omega,rfl⟩
   refine⟨qv,?_,g2,g3,fun p hp=>?_⟩
   ·rw[List.getElem_append_right qn]
    simp only[htl]
    exact RdD.keep st.keeps _ _ g1
   ·have e1:j * sz=n * sz+(j-n) * sz:=by rw[← Nat.add_mul];congr 1;omega
    have:(j-n+1) * sz≤m * sz:=Nat.mul_le_mul_right sz qn
    rw[Nat.add_mul,Nat.one_mul]at this
    rw[cell_of_row w' _ _ _ et (0,0) hblk,List.getElem?_toArray,List.append_assoc,List.getElem?_append_right qn,List.getElem?_append_left qn,← g4 p hp]
    congr 1
    omega
theorem Ug {P:Program} {o:Oper} {s:SS} (q:Nat) {sz:Nat} {α:Type} {e:α→SV} {l:List α} {v:Value} {x:Operand} (h:o.op=.move x∨o.op=.assign x) (hx:ev s x=.val v) (hq:s.h q=.dat v sz e l):Good P o s ⟨.sl sz e l,[q],[]⟩ :=
 Good.pure fun κ a w _ hr ho=>by
  have hq1:=ho q qy
  rw[hq]at hq1
  have hr1:=hr x (by rcases h with h | h<;>simp[h,Op.operands])
  rw[hx]at hr1
  refine⟨a.eval x,?_,?_⟩
  ·rcases h with h | h<;>simp[execOp,h]
  ·rw[hr1.val];exact hq1
theorem Wy {f g:Nat→Option (Nat × Nat)}:∀ (ps:List (Nat × Value)) (cs:Array Value),(∀ p∈ps,f p.1=g p.1)→Instr.fill f cs ps=Instr.fill g cs ps
 | [],cs,_=>rfl
 | (i,v)::ps,cs,h=>by
  have h1:=h (i,v) qy
  simp only[Instr.fill]
  dsimp only at h1
  rw[h1]
  cases g i with
  | none=>rfl
  | some os =>
   dsimp only
   split
   ·rfl
   ·exact Wy ps _ (fun p hp=>h p (by simp[hp]))
theorem Acz {P:Program} (Γ:Ty P) {o:Oper} {s:SS} {t et:TypeId} {ti:TI} {len esz:Nat} {ps:List (Nat × Operand)} {out:List SV} (h:o.op=.build t ps.toArray) (ht:Γ.get t=some ti) (hk:ti.k=.array et len esz)
  (h1:Uc ti.zero=true) (hps:(ps.all fun p=>Nat.blt p.1 len)=true) (hf:Wz ((List.range len).map fun i=>(i * esz,esz)) (ti.zero.map .val) (ps.map fun p=>(p.1,ev s p.2))=some out):Good P o s ⟨.agg out,[],[]⟩ :=
 Good.pure fun κ a w _ hr _=>by
  obtain ⟨d,info,z,k1,k2,k3,k4,k5,k6⟩:=Γ.ok t ti ht
  obtain ⟨hu,i,q1,q2⟩:=Md Γ ht hk
  have hops:∀ p∈ps,Rd κ w (ev s p.2) (a.eval p.2):=fun p hp=>hr p.2 (by
   simp only[h,Op.operands]
   simp only[List.mem_toArray,List.mem_map]
   exact⟨p,hp,E⟩)
  obtain ⟨r,r1,r2,r3⟩:=Aag (κ:=κ) (w:=w) (a:=a) ps _ out z.cells (by rw[k6];exact S4 _) (by rw[k6];exact Lv h1) hops hf
  refine⟨.agg r,?_,?_⟩
  ·have hcg:=Wy (f:=fun i=>some (i * esz,esz)) (g:=fun i=>((List.range len).map fun i=>(i * esz,esz))[i]?) (ps.map fun p=>(p.1,a.eval p.2)) z.cells (fun p hp=>by
    obtain ⟨x,hx,rfl⟩:=List.mem_map.1 hp
    have hlt:x.1<len:=Nat.le_of_ble_eq_true (List.all_eq_true.1 hps x hx)
    dsimp only
    rw[List.getElem?_map,List.getElem?_range hlt]
    rfl)
   simp only[execOp,h,Sem.run_bind,Instr.build,zeroValue,typeInfo,run_program,Result.andThen_ok,k3,k5,Sem.run_pure,run_underlying hu,sizeOf,q1,q2,List.map_toArray]
   rw[hcg,r1]
   simp
  ·simp only[Rd]
   exact⟨r.toList,by simp,r3,r2⟩
mutual
def rnb (k d:Nat):SV→SV
 | .ptr j o=>bif Nat.beq j k then .ptr d o else .ptr j o
 | .agg l=>.agg (Vz k d l)
 | .tup l=>.tup (Vz k d l)
 | .ifc t y=>.ifc t (rnb k d y)
 | .clo f g l=>.clo f (Vz k d g) (Vz k d l)
 | y=>y
def Vz (k d:Nat):List SV→List SV
 | []=>[]
 | y::l=>rnb k d y::Vz k d l
end
mutual
theorem Aeh {κ κ':Ka} {w:World} {K:Nat→Prop} {k d:Nat} (st:Step K κ w κ' w) (hx:∀ o v,Rd κ w (.ptr k o) v→Rd κ' w (.ptr d o) v):∀ (y:SV) (v:Value),Rd κ w y v→Rd κ' w (rnb k d y) v
 | .ptr j o,v,h=>by
  unfold rnb
  by_cases hk:j=k
  ·subst hk;rw[show Nat.beq j j=true from Nat.beq_refl j];exact hx o v h
  ·rw[show Nat.beq j k=false from by cases hb:Nat.beq j k with | false=>rfl | true=>exact absurd (Nat.eq_of_beq_eq_true hb) hk];exact Rd.step st _ _ h
 | .agg l,v,h=>by
  simp only[Rd]at h
  unfold rnb
  simp only[Rd]
  obtain ⟨cs,h1,h2,h3⟩:=h
  exact⟨cs,h1,h2,Kl st hx l cs h3⟩
 | .tup l,v,h=>by
  simp only[Rd]at h
  unfold rnb
  simp only[Rd]
  obtain ⟨cs,h1,h3⟩:=h
  exact⟨cs,h1,Kl st hx l cs h3⟩
 | .ifc t y,v,h=>by
  simp only[Rd]at h
  unfold rnb
  simp only[Rd]
  obtain ⟨u,h1,h3⟩:=h
  exact⟨u,h1,Aeh st hx y u h3⟩
 | .clo f g l,v,h=>by
  simp only[Rd]at h
  unfold rnb
  simp only[Rd]
  obtain ⟨fs,cs,h1,h2,h3⟩:=h
  exact⟨fs,cs,h1,Kl st hx g fs h2,Kl st hx l cs h3⟩
 | .top,v,h=>by unfold rnb;exact Rd.step st _ _ h
 | .val u,v,h=>by unfold rnb;exact Rd.step st _ _ h
 | .sl sz e l,v,h=>by unfold rnb;exact Rd.step st _ _ h
 | .ref sz z o,v,h=>by unfold rnb;exact Rd.step st _ _ h
 | .rpt k sz i o,v,h=>by unfold rnb;exact Rd.step st _ _ h
 | .osl k,v,h=>by unfold rnb;exact Rd.step st _ _ h
theorem Kl {κ κ':Ka} {w:World} {K:Nat→Prop} {k d:Nat} (st:Step K κ w κ' w) (hx:∀ o v,Rd κ w (.ptr k o) v→Rd κ' w (.ptr d o) v):∀ (l:List SV) (vs:List Value),RdL κ w l vs→RdL κ' w (Vz k d l) vs
 | [],vs,h=>by
  unfold Vz
  simpa [RdL] using h
 | y::l,vs,h=>by
  simp only[RdL]at h
  unfold Vz
  simp only[RdL]
  obtain ⟨v,r,h1,h2,h3⟩:=h
  exact⟨v,r,h1,Aeh st hx y v h2,Kl st hx l r h3⟩
end
def rnbO (k d:Nat):Ob→Ob
 | .box l=>.box (Vz k d l)
 | o=>o
theorem Ad9 {κ:Ka} {w:World} {k d b:Nat} (hi:Inv κ w) (hk:κ k=.blk b) (hd:κ d=.new) :
  Step (fun j=>j=k∨j=d) κ w (Cu (Cu κ k .dead) d (.blk b)) w∧Inv (Cu (Cu κ k .dead) d (.blk b)) w:=by
 have hkd:k≠d:=fun e=>by subst e;rw[hk]at hd;cases hd
 have hkb:(κ k).block? = some b:=by rw[hk];rfl
 have key:∀ j c,((Cu (Cu κ k .dead) d (.blk b)) j).block? = some c→(j=d∧c=b)∨(j≠d∧j≠k∧(κ j).block? = some c):=by
  intro j c h
  by_cases hj:j=d
  ·subst hj;rw[Aq]at h;exact .inl ⟨rfl,by simpa [Ent.block?] using h.symm⟩
  ·rw[Bq _ _ hj]at h
   by_cases hj2:j=k
   ·subst hj2;rw[Aq]at h;cases h
   ·rw[Bq _ _ hj2]at h;exact .inr ⟨hj,hj2,h⟩
 refine⟨⟨Nat.le_refl _,E,E,E,E,fun _ _=>rfl,fun _ _ _=>rfl,fun _ _ _ _=>rfl,fun j hj=>?_,?_,?_⟩,⟨?_,?_,?_,fun c h=>hi.mbnd c h⟩⟩
 ·rw[Bq _ _ (fun e=>hj (.inr e)),Bq _ _ (fun e=>hj (.inl e))]
 ·rintro j (rfl | rfl)
  ·exact .inr (.inr (by rw[Bq _ _ hkd,Aq]))
  ·exact .inl hd
 ·rintro c (⟨j,hj⟩ | hj)
  ·rcases key j c hj with ⟨_,rfl⟩ | ⟨_,_,h⟩
   ·exact .inl (.inl ⟨k,hkb⟩)
   ·exact .inl (.inl ⟨j,h⟩)
  ·exact .inl (.inr hj)
 ·intro i j c h1 h2
  rcases key i c h1 with ⟨a1,a2⟩ | ⟨a1,a2,a3⟩<;>rcases key j c h2 with ⟨b1,b2⟩ | ⟨b1,b2,b3⟩
  ·exact a1.trans b1.symm
  ·subst a2;exact absurd (hi.inj j k _ b3 hkb) b2
  ·subst b2;exact absurd (hi.inj i k _ a3 hkb) a2
  ·exact hi.inj i j c a3 b3
 ·intro j c h
  rcases key j c h with ⟨_,rfl⟩ | ⟨_,_,h⟩
  ·exact hi.bnd k _ hkb
  ·exact hi.bnd j c h
 ·intro j c h
  rcases key j c h with ⟨_,rfl⟩ | ⟨_,_,h⟩
  ·exact hi.apart k _ hkb
  ·exact hi.apart j c h
theorem Ib {C:Cx} {kk:List KI} {s:SS} (k d:Nat) {l:List SV} (h:s.h k=.box l) (hd:s.h d=.fresh) (hkd:k≠d)
  (hg:G C kk ⟨fun i=>rnb k d (s.σ i),upd (fun j=>bif Nat.beq j k then .non else rnbO k d (s.h j)) d (.box (Vz k d l))⟩):G C kk s:=fun κ a w hs=>by
 have hob:=hs.obj k
 rw[h]at hob
 have hnew:κ d=.new:=by have:=hs.obj d;rwa [hd]at this
 obtain ⟨b,cs,T,fr,e1,e2,e3,e4,e5⟩:=hob
 obtain ⟨st,inv⟩:=Ad9 hs.inv e1 hnew
 have hne:∀ j,j≠k→j≠d→(Cu (Cu κ k .dead) d (.blk b)) j=κ j:=fun j h1 h2=>by rw[Bq _ _ h2,Bq _ _ h1]
 have hv:∀ o v,Rd κ w (.ptr k o) v→Rd (Cu (Cu κ k .dead) d (.blk b)) w (.ptr d o) v:=fun o v hv=>by
  simp only[Rd,e1]at hv
  simp only[Rd,Aq]
  exact hv
 refine hg _ a w ⟨hs.defers,hs.size,inv,hs.ctx.step inv st,fun j=>Aeh st hv _ _ (hs.slot j),fun j=>?_⟩
 show ObOK _ w j (upd (fun j=>bif Nat.beq j k then .non else rnbO k d (s.h j)) d (.box (Vz k d l)) j)
 by_cases hj:j=d
 ·subst hj
  rw[Bg]
  exact⟨b,cs,T,fr,Aq _ _ _,e2,e3,e4,Kl st hv l cs e5⟩
 ·rw[Bz _ _ hj]
  by_cases hj2:j=k
  ·subst hj2;rw[show Nat.beq j j=true from Nat.beq_refl j];trivial
  ·rw[show Nat.beq j k=false from by cases hb:Nat.beq j k with | false=>rfl | true=>exact absurd (Nat.eq_of_beq_eq_true hb) hj2]
   have hb:=ObOK.step st (fun e=>e.elim hj2 hj) _ (hs.obj j)
   have h0:=hs.obj j
   show ObOK _ w j (rnbO k d (s.h j))
   cases hh:s.h j with
   | box m =>
    rw[hh]at h0 hb
    obtain ⟨b2,cs2,T2,fr2,f1,f2,f3,f4,f5⟩:=h0
    exact⟨b2,cs2,T2,fr2,(hne j hj2 hj).trans f1,f2,f3,f4,Kl st hv m cs2 f5⟩
   | fresh=>rw[hh]at hb;exact hb
   | non=>rw[hh]at hb;exact hb
   | row sz' e' l'=>rw[hh]at hb;exact hb
   | lit sz' svs=>rw[hh]at hb;exact hb
   | glob sz' x' g'=>rw[hh]at hb;exact hb
   | pin b' n' cap' sz' e' l'=>rw[hh]at hb;exact hb
   | dat v' sz' e' l'=>rw[hh]at hb;exact hb
end Go.Sy
namespace Go.Sy.YteinjapglfkamaaGreat
open Go.Proofs
attribute [local irreducible] Go.Sy.G Go.Sy.DR
set_option maxRecDepth 100000
set_option maxHeartbeats 4000000
def udpU (b:List UInt8):Nat→List SV
 | 0=>[Aa 0,Aa 0,Aa 0,Aa 0]
 | 1=>[Aa (numAt b 0 2),Aa 0,Aa 0,Aa 0]
 | 2=>[Aa (numAt b 0 2),Aa (numAt b 2 2),Aa 0,Aa 0]
 | 3=>[Aa (numAt b 0 2),Aa (numAt b 2 2),Aa (numAt b 4 2),Aa 0]
 | _=>[Aa (numAt b 0 2),Aa (numAt b 2 2),Aa (numAt b 4 2),Aa (numAt b 6 2)]
theorem Ajx (b:List UInt8) (hb:b.length<100000):Sy.Spec Tryz.prog 381 [.sl 1 Ai b] [] (.tup [Aa (udpTakeT b).1,Aa (udpTakeT b).2.1,.sl 1 Ai (udpTakeT b).2.2.1,Aa (udpTakeT b).2.2.2]) []:=Ab Γ hm 100 F381 Tryz.ntmps381 rfl fun F hF=>by
 have hres:=udpTakeT.eq_1 b
 generalize udpTakeT b=res at *
 conv=>whnf
 refine⟨fun h=>?_,fun h=>?_⟩
 ·rw[if_pos (by have:=of_decide_eq_true h;omega)]at hres
  subst hres
  refine rg ?_;conv=>whnf
  refine Ao 4 1 Ai E ?_
  exact Ac E (.cons .tmp (.cons .tmp (.cons .tmp (.cons .tmp .nil)))) E E
 have h8:8≤b.length:=by have:=of_decide_eq_false h;omega
 rw[if_neg qn]at hres
 clear h
 have hp0:=D9 (b[0]'qn) (b[1]'qn)
 rw[← O2 (show 0+2≤b.length by omega)]at hp0
 have hp1:=D9 (b[2]'qn) (b[3]'qn)
 rw[← O2 (show 2+2≤b.length by omega)]at hp1
 have hp2:=D9 (b[4]'qn) (b[5]'qn)
 rw[← O2 (show 4+2≤b.length by omega)]at hp2
 have hp3:=D9 (b[6]'qn) (b[7]'qn)
 rw[← O2 (show 6+2≤b.length by omega)]at hp3
 refine rg ?_;conv=>whnf
 refine A3 4 (fun j=>[(0,.sl 1 Ai b),(6,.ptr 6 0),(11,Aa j)]) (fun j=>[(6,.box (udpU b j))]) [] ⟨⟨E,E,E,E,E,E,Y⟩,⟨.inl E,E,Y⟩,E,E⟩ ?_
 intro j hj
 have hcase:j=0∨j=1∨j=2∨j=3∨j=4:=by omega
 rcases hcase with rfl | rfl | rfl | rfl | rfl
 ·(refine rg ?_;(conv=>whnf);refine aT ?_;refine rg ?_;conv=>whnf)
  refine⟨by unfold I64;omega,?_⟩
  conv=>whnf
  refine⟨E,by omega,by omega,?_⟩
  conv=>whnf
  refine⟨by decide,?_⟩
  conv=>whnf
  refine⟨by unfold I64;omega,?_⟩
  conv=>whnf
  refine⟨by unfold I64;omega,?_⟩
  conv=>whnf
  refine⟨E,by omega,by omega,?_⟩
  conv=>whnf
  refine⟨by decide,by decide,?_⟩
  conv=>whnf
  refine⟨qq,?_⟩
  conv=>whnf
  refine⟨by unfold I64;omega,?_⟩
  conv=>whnf
  exact Av [] qx ⟨⟨E,E,E,E,E,E,Y⟩,⟨.inl (congrArg (fun z:Int=>Ob.box [Aa z,Aa 0,Aa 0,Aa 0]) hp0.symm),E,Y⟩,E,E⟩
 ·(refine rg ?_;(conv=>whnf);refine aT ?_;refine rg ?_;conv=>whnf)
  refine⟨by unfold I64;omega,?_⟩
  conv=>whnf
  refine⟨E,by omega,by omega,?_⟩
  conv=>whnf
  refine⟨by decide,?_⟩
  conv=>whnf
  refine⟨by unfold I64;omega,?_⟩
  conv=>whnf
  refine⟨by unfold I64;omega,?_⟩
  conv=>whnf
  refine⟨E,by omega,by omega,?_⟩
  conv=>whnf
  refine⟨by decide,by decide,?_⟩
  conv=>whnf
  refine⟨qq,?_⟩
  conv=>whnf
  refine⟨by unfold I64;omega,?_⟩
  conv=>whnf
  exact Av [] qx ⟨⟨E,E,E,E,E,E,Y⟩,⟨.inl (congrArg (fun z:Int=>Ob.box [Aa (numAt b 0 2),Aa z,Aa 0,Aa 0]) hp1.symm),E,Y⟩,E,E⟩
 ·(refine rg ?_;(conv=>whnf);refine aT ?_;refine rg ?_;conv=>whnf)
  refine⟨by unfold I64;omega,?_⟩
  conv=>whnf
  refine⟨E,by omega,by omega,?_⟩
  conv=>whnf
  refine⟨by decide,?_⟩
  conv=>whnf
  refine⟨by unfold I64;omega,?_⟩
  conv=>whnf
  refine⟨by unfold I64;omega,?_⟩
  conv=>whnf
  refine⟨E,by omega,by omega,?_⟩
  conv=>whnf
  refine⟨by decide,by decide,?_⟩
  conv=>whnf
  refine⟨qq,?_⟩
  conv=>whnf
  refine⟨by unfold I64;omega,?_⟩
  conv=>whnf
  exact Av [] qx ⟨⟨E,E,E,E,E,E,Y⟩,⟨.inl (congrArg (fun z:Int=>Ob.box [Aa (numAt b 0 2),Aa (numAt b 2 2),Aa z,Aa 0]) hp2.symm),E,Y⟩,E,E⟩
 ·(refine rg ?_;(conv=>whnf);refine aT ?_;refine rg ?_;conv=>whnf)
  refine⟨by unfold I64;omega,?_⟩
  conv=>whnf
  refine⟨E,by omega,by omega,?_⟩
  conv=>whnf
  refine⟨by decide,?_⟩
  conv=>whnf
  refine⟨by unfold I64;omega,?_⟩
  conv=>whnf
  refine⟨by unfold I64;omega,?_⟩
  conv=>whnf
  refine⟨E,by omega,by omega,?_⟩
  conv=>whnf
  refine⟨by decide,by decide,?_⟩
  conv=>whnf
  refine⟨qq,?_⟩
  conv=>whnf
  refine⟨by unfold I64;omega,?_⟩
  conv=>whnf
  exact Av [] qx ⟨⟨E,E,E,E,E,E,Y⟩,⟨.inl (congrArg (fun z:Int=>Ob.box [Aa (numAt b 0 2),Aa (numAt b 2 2),Aa (numAt b 4 2),Aa z]) hp3.symm),E,Y⟩,E,E⟩
 clear hp0 hp1 hp2 hp3
 (refine rg ?_;(conv=>whnf);refine aF ?_;refine rg ?_;conv=>whnf)
 refine⟨by decide,by decide,?_⟩
 conv=>whnf
 refine⟨fun h=>?_,fun h=>?_⟩
 ·rw[if_pos (by have:=of_decide_eq_true h;omega)]at hres
  subst hres
  refine rg ?_;conv=>whnf
  refine Ao 4 1 Ai E ?_
  exact Ac E (.cons .tmp (.cons .tmp (.cons .tmp (.cons .tmp .nil)))) E E
 have hs8:8≤numAt b 4 2:=by have:=of_decide_eq_false h;omega
 rw[if_neg qn]at hres
 clear h
 refine rg ?_;conv=>whnf
 refine⟨by decide,by decide,?_⟩
 conv=>whnf
 refine⟨fun h=>?_,fun h=>?_⟩
 ·rw[if_pos (by have:=of_decide_eq_true h;omega)]at hres
  subst hres
  refine rg ?_;conv=>whnf
  refine Ao 4 1 Ai E ?_
  exact Ac E (.cons .tmp (.cons .tmp (.cons .tmp (.cons .tmp .nil)))) E E
 have hsl:numAt b 4 2≤b.length:=by have:=of_decide_eq_false h;omega
 rw[if_neg qn]at hres
 clear h
 refine rg ?_;conv=>whnf
 refine⟨by decide,by decide,?_⟩
 conv=>whnf
 refine⟨fun h=>?_,fun h=>?_⟩
 ·rw[if_pos (by have:(numAt b 6 2:Int)≠0:=(by simpa using h);omega)]at hres
  subst hres
  refine rg ?_;conv=>whnf
  refine Ao 4 1 Ai E ?_
  exact Ac E (.cons .tmp (.cons .tmp (.cons .tmp (.cons .tmp .nil)))) E E
 rw[if_neg (by have:(numAt b 6 2:Int)=0:=(by simpa using h);omega)]at hres
 subst hres
 clear h
 have qc:=K1 ((b.take (numAt b 4 2)).drop 8) (by rw[List.length_drop,List.length_take];omega)
 refine rg ?_;conv=>whnf
 refine⟨by decide,by decide,?_⟩
 conv=>whnf
 refine⟨by decide,by decide,?_⟩
 conv=>whnf
 refine⟨by decide,by decide,?_⟩
 conv=>whnf
 refine Bo (Ci (lo:=8) (hi:=numAt b 4 2) Γ.toTy E E E E (.inr ⟨_,_,E,E⟩) (.inr ⟨_,_,E,E⟩) hs8 hsl) qq E ?_
 refine rd qq ?_;conv=>whnf
 refine Au qc F290 E E E qq E ?_
 refine rd qq ?_;conv=>whnf
 refine⟨qq,?_⟩
 conv=>whnf
 exact Ac E (.cons .tmp (.cons .tmp (.cons .tmp (.cons .tmp .nil)))) E E
theorem Amy (src dst:Nat) (body:List UInt8) (h1:src≤65535) (h2:dst≤65535) (h3:body.length≤1472):Sy.Spec Tryz.prog 351 [Aa src,Aa dst,.sl 1 Ai body] [] (.tup [.sl 1 Ai (Ajy src dst body),Aa 0]) []:=Ab Γ hm 100 F351 Tryz.ntmps351 rfl fun F hF=>by
 ((conv=>whnf);refine aF ?_;refine rg ?_;conv=>whnf)
 (refine⟨fun h=>False.elim (by simp at h;omega),fun _=>?_⟩;refine rg ?_;(conv=>whnf);refine aF ?_;refine rg ?_;(conv=>whnf);refine⟨fun h=>False.elim (by simp at h;omega),fun _=>?_⟩;refine rg ?_;(conv=>whnf);refine⟨fun h=>False.elim (by simp at h;omega),fun _=>?_⟩;refine rg ?_;conv=>whnf)
 refine⟨by unfold I64;omega,?_⟩
 conv=>whnf
 refine Cf 8 1000 1 Ai E E ?_
 refine Ah (Acz Γ.toTy E E E E E E) E E ?_
 refine rg ?_;conv=>whnf
 have key:∀ (x:Nat) (pre:List Nat),pre.length≤4→By (pre++[x])=By pre++[UInt8.ofNat (x / 256),UInt8.ofNat x]:=fun x pre _=>Hi pre x
 have hwl:∀ l:List Nat,(By l).length=2 * l.length:=Ja
 obtain ⟨ws,hws⟩:∃ ws:List Nat,ws=[src,dst,8+body.length,0]:=⟨_,rfl⟩
 refine A3 4 (fun j=>[(2,.sl 1 Ai body),(8,.osl 1000),(35,.agg [Aa src,Aa dst,Aa (8+body.length:Nat),Aa 0]),(36,Aa j)]) (fun j=>[(1000,.row 1 Ai (By (ws.take j)))]) [] ⟨⟨E,E,E,E,E,E,E,E,Y⟩,⟨.inl (congrArg (Ob.row 1 Ai) (by simp[By])),E,Y⟩,E,E⟩ ?_
 intro j hj
 have hcase:j=0∨j=1∨j=2∨j=3∨j=4:=by omega
 rcases hcase with rfl | rfl | rfl | rfl | rfl
 ·have hs:By (ws.take 1)=By (ws.take 0)++[UInt8.ofNat (src / 256),UInt8.ofNat src]:=by subst hws;exact Hi [] src
  have hl:=hwl (ws.take 0)
  have hl2:(ws.take 0).length≤4:=by rw[List.length_take];omega
  have htb:=D4 src
  (refine rg ?_;(conv=>whnf);refine aT ?_;refine rg ?_;conv=>whnf)
  refine Ah (Eo (k:=.int .i64) Γ.toTy E E E Tryz.underlying3 E E qx qx E) E E ?_
  refine rg ?_;conv=>whnf
  refine⟨by decide,?_⟩
  conv=>whnf
  refine Ah (Al Γ.toTy 46 E E E E E (.row E) (.lit (e:=Ai) (l:=[UInt8.ofNat (src / 256),UInt8.ofNat src]) E htb) qy (by rw[hl];simp only[List.length_cons,List.length_nil];omega) (by rw[hl];simp only[List.length_cons,List.length_nil];omega)) E E ?_
  refine rg ?_;conv=>whnf
  refine⟨by unfold I64;omega,?_⟩
  conv=>whnf
  exact Av [(1000,46)] qx ⟨⟨E,E,E,E,E,E,E,E,Y⟩,⟨.inl (congrArg (Ob.row 1 Ai) hs),E,Y⟩,E,E⟩
 ·have hs:By (ws.take 2)=By (ws.take 1)++[UInt8.ofNat (dst / 256),UInt8.ofNat dst]:=by subst hws;exact Hi [src] dst
  have hl:=hwl (ws.take 1)
  have hl2:(ws.take 1).length≤4:=by rw[List.length_take];omega
  have htb:=D4 dst
  (refine rg ?_;(conv=>whnf);refine aT ?_;refine rg ?_;conv=>whnf)
  refine Ah (Eo (k:=.int .i64) Γ.toTy E E E Tryz.underlying3 E E qx qx E) E E ?_
  refine rg ?_;conv=>whnf
  refine⟨by decide,?_⟩
  conv=>whnf
  refine Ah (Al Γ.toTy 46 E E E E E (.row E) (.lit (e:=Ai) (l:=[UInt8.ofNat (dst / 256),UInt8.ofNat dst]) E htb) qy (by rw[hl];simp only[List.length_cons,List.length_nil];omega) (by rw[hl];simp only[List.length_cons,List.length_nil];omega)) E E ?_
  refine rg ?_;conv=>whnf
  refine⟨by unfold I64;omega,?_⟩
  conv=>whnf
  exact Av [(1000,46)] qx ⟨⟨E,E,E,E,E,E,E,E,Y⟩,⟨.inl (congrArg (Ob.row 1 Ai) hs),E,Y⟩,E,E⟩
 ·have hs:By (ws.take 3)=By (ws.take 2)++[UInt8.ofNat ((8+body.length) / 256),UInt8.ofNat (8+body.length)]:=by subst hws;exact Hi [src,dst] (8+body.length)
  have hl:=hwl (ws.take 2)
  have hl2:(ws.take 2).length≤4:=by rw[List.length_take];omega
  have htb:=D4 (8+body.length)
  (refine rg ?_;(conv=>whnf);refine aT ?_;refine rg ?_;conv=>whnf)
  refine Ah (Eo (k:=.int .i64) Γ.toTy E E E Tryz.underlying3 E E qx qx E) E E ?_
  refine rg ?_;conv=>whnf
  refine⟨by decide,?_⟩
  conv=>whnf
  refine Ah (Al Γ.toTy 46 E E E E E (.row E) (.lit (e:=Ai) (l:=[UInt8.ofNat ((8+body.length) / 256),UInt8.ofNat (8+body.length)]) E htb) qy (by rw[hl];simp only[List.length_cons,List.length_nil];omega) (by rw[hl];simp only[List.length_cons,List.length_nil];omega)) E E ?_
  refine rg ?_;conv=>whnf
  refine⟨by unfold I64;omega,?_⟩
  conv=>whnf
  exact Av [(1000,46)] qx ⟨⟨E,E,E,E,E,E,E,E,Y⟩,⟨.inl (congrArg (Ob.row 1 Ai) hs),E,Y⟩,E,E⟩
 ·have hs:By (ws.take 4)=By (ws.take 3)++[UInt8.ofNat (0 / 256),UInt8.ofNat 0]:=by subst hws;exact Hi [src,dst,8+body.length] 0
  have hl:=hwl (ws.take 3)
  have hl2:(ws.take 3).length≤4:=by rw[List.length_take];omega
  have htb:=D4 0
  (refine rg ?_;(conv=>whnf);refine aT ?_;refine rg ?_;conv=>whnf)
  refine Ah (Eo (k:=.int .i64) Γ.toTy E E E Tryz.underlying3 E E qx qx E) E E ?_
  refine rg ?_;conv=>whnf
  refine⟨by decide,?_⟩
  conv=>whnf
  refine Ah (Al Γ.toTy 46 E E E E E (.row E) (.lit (e:=Ai) (l:=[UInt8.ofNat (0 / 256),UInt8.ofNat 0]) E htb) qy (by rw[hl];simp only[List.length_cons,List.length_nil];omega) (by rw[hl];simp only[List.length_cons,List.length_nil];omega)) E E ?_
  refine rg ?_;conv=>whnf
  refine⟨by unfold I64;omega,?_⟩
  conv=>whnf
  exact Av [(1000,46)] qx ⟨⟨E,E,E,E,E,E,E,E,Y⟩,⟨.inl (congrArg (Ob.row 1 Ai) hs),E,Y⟩,E,E⟩
 have hl:=hwl (ws.take 4)
 have e:ws.take 4=[src,dst,8+body.length,0]:=by rw[hws];rfl
 rw[e]at hl ⊢
 have hl3:(By [src,dst,8+body.length,0]).length=8:=hl
 (refine rg ?_;(conv=>whnf);refine aF ?_;refine rg ?_;conv=>whnf)
 refine Ah (Al Γ.toTy 50 E E E E E (.row E) .sl qy (by rw[hl3];simp;omega) (by rw[hl3];omega)) E E ?_
 refine At 50 E ?_
 refine rg ?_;conv=>whnf
 exact Ac E (.cons .tmp (.cons .tmp .nil)) E E
theorem Ajz (a b:Nat) (ha:a<18446744073709551616) (hb:b<18446744073709551616):Sy.Spec Tryz.prog 352 [A9 a,A9 b] [] (Aa (udpPort a b:Nat)) []:=Ab Γ hm 100 F352 Tryz.ntmps352 rfl fun F hF=>by
 have hx:=bits_xor_u64_nat a b ha hb
 have hmd:((a ^^^ b:Nat):Int).tmod 16384=(((a ^^^ b) % 16384:Nat):Int):=by rw[Int.tmod_eq_emod_of_nonneg qn];omega
 have hl:=Nat.mod_lt (a ^^^ b) (show 0<16384 by decide)
 have hw:IntKind.i64.wrap (((a ^^^ b) % 16384:Nat):Int)=(((a ^^^ b) % 16384:Nat):Int):=by rw[IntKind.wrap_i64];omega
 conv=>whnf
 refine⟨by decide,?_⟩
 rw[hx,hmd]
 conv=>whnf
 rw[hw]
 refine⟨by unfold I64;omega,?_⟩
 conv=>whnf
 refine Ac E (.cons .tmp .nil) ?_ E
 refine congrArg (fun z:Int=>SV.val (.int .i64 z)) ?_
 rw[udpPort]
 omega
theorem Agu (v:Int) (h:Tb v=true):Sy.Spec Tryz.prog 350 [Aa v] [] (.tup [.sl 1 Ai [],Aa 17]) []:=Ab Γ hm 100 F350 Tryz.ntmps350 rfl fun F hF=>by
 simp only[Tb,Bool.or_eq_true,decide_eq_true_eq]at h
 conv=>whnf
 refine⟨fun h1=>?_,fun h1=>?_⟩
 ·(refine rg ?_;(conv=>whnf);refine aT ?_;refine rg ?_;conv=>whnf)
  refine Ao 2 1 Ai E ?_
  exact Ac E (.cons .tmp (.cons .tmp .nil)) E E
 refine rg ?_;conv=>whnf
 refine⟨fun h2=>?_,fun h2=>absurd (of_decide_eq_false h2) (by have:=of_decide_eq_false h1;omega)⟩
 refine rg ?_;conv=>whnf
 refine Ao 2 1 Ai E ?_
 exact Ac E (.cons .tmp (.cons .tmp .nil)) E E
theorem Ajt {v:Int} (h:Tb v=false):1≤v∧v≤16777215:=by
 simp only[Tb,Bool.or_eq_false_iff,decide_eq_false_iff_not]at h
 omega
theorem Ais (k:Nat):(K9 k).map Ai=[SV.val (.int .u8 8),SV.val (.int .u8 0),SV.val (.int .u8 0),SV.val (.int .u8 0),SV.val (.int .u8 (IntKind.u8.wrap ((k:Int).fdiv (2 ^ (min (Int.toNat 16) IntKind.i64.bits))))),
  SV.val (.int .u8 (IntKind.u8.wrap ((k:Int).fdiv (2 ^ (min (Int.toNat 8) IntKind.i64.bits))))),SV.val (.int .u8 (IntKind.u8.wrap (k:Int))),SV.val (.int .u8 0)]:=by
 have h1:IntKind.u8.wrap ((k:Int).fdiv (2 ^ (min (Int.toNat 16) IntKind.i64.bits)))=((UInt8.ofNat (k / 65536)).toNat:Int):=by
  show IntKind.u8.wrap ((k:Int).fdiv 65536)=_
  rw[Int.fdiv_eq_ediv_of_nonneg _ qx,IntKind.wrap_u8]
  simp
 have h2:IntKind.u8.wrap ((k:Int).fdiv (2 ^ (min (Int.toNat 8) IntKind.i64.bits)))=((UInt8.ofNat (k / 256)).toNat:Int):=by
  show IntKind.u8.wrap ((k:Int).fdiv 256)=_
  rw[Int.fdiv_eq_ediv_of_nonneg _ qx,IntKind.wrap_u8]
  simp
 have h3:=Aoh k
 rw[h1,h2,h3]
 rfl
theorem Alq (k:Nat) (h:1≤k∧k≤16777215):Sy.Spec Tryz.prog 350 [Aa k] [] (.tup [.osl 0,Aa 0]) [(0,.row 1 Ai (K9 k))]:=Ab Γ hm 100 F350 Tryz.ntmps350 rfl fun F hF=>by
 have hl:=Ais k
 conv=>whnf
 refine⟨fun h1=>absurd (of_decide_eq_true h1) qn,fun _=>?_⟩
 refine rg ?_;conv=>whnf
 refine⟨fun h1=>absurd (of_decide_eq_true h1) qn,fun _=>?_⟩
 refine rg ?_;conv=>whnf
 refine⟨by decide,?_⟩
 conv=>whnf
 refine⟨by decide,?_⟩
 conv=>whnf
 refine Iz 18 Ai (K9 k) E hl ?_
 exact done E (.cons .tmp (.cons .tmp .nil)) [(0,18)] [(0,.row 1 Ai (K9 k))] (fun _ h=>h) E E ⟨Y,⟨.inl E,E,Y⟩,E,E⟩
theorem Aje (a b:List UInt8):((⟨a.toArray⟩:ByteArray) == (⟨b.toArray⟩:ByteArray))=decide (a=b):=by
 have key:=Go.MapKept.bytes_beq (⟨a.toArray⟩:ByteArray) ⟨b.toArray⟩
 by_cases h:a=b
 ·subst h
  rw[decide_eq_true rfl]
  exact key.2 E
 ·rw[decide_eq_false h]
  cases hb:((⟨a.toArray⟩:ByteArray) == (⟨b.toArray⟩:ByteArray)) with
  | false=>rfl
  | true =>
   have:=congrArg (fun z:ByteArray=>z.data.toList) (key.1 hb)
   exact absurd (by simpa using this) h
theorem Aj1 (x y z:UInt8):bits .or .i64 (bits .or .i64 (IntKind.i64.wrap ((IntKind.i64.wrap (x.toNat:Int)) * 2 ^ min (Int.toNat 16) IntKind.i64.bits)) (IntKind.i64.wrap ((IntKind.i64.wrap (y.toNat:Int)) * 2 ^ min (Int.toNat 8) IntKind.i64.bits))) (IntKind.i64.wrap (z.toNat:Int))
  = (((x.toNat * 256+y.toNat) * 256+z.toNat:Nat):Int):=by
 have h1:=x.toNat_lt
 have h2:=y.toNat_lt
 have h3:=z.toNat_lt
 have e1:IntKind.i64.wrap (x.toNat:Int)=(x.toNat:Int):=by rw[IntKind.wrap_i64];omega
 have e2:IntKind.i64.wrap (y.toNat:Int)=(y.toNat:Int):=by rw[IntKind.wrap_i64];omega
 have e3:IntKind.i64.wrap (z.toNat:Int)=(z.toNat:Int):=by rw[IntKind.wrap_i64];omega
 rw[e1,e2,e3]
 have f1:IntKind.i64.wrap ((x.toNat:Int) * 2 ^ min (Int.toNat 16) IntKind.i64.bits)=((x.toNat * 65536:Nat):Int):=by
  show IntKind.i64.wrap ((x.toNat:Int) * 65536)=_
  rw[IntKind.wrap_i64]
  omega
 have f2:IntKind.i64.wrap ((y.toNat:Int) * 2 ^ min (Int.toNat 8) IntKind.i64.bits)=((y.toNat * 256:Nat):Int):=by
  show IntKind.i64.wrap ((y.toNat:Int) * 256)=_
  rw[IntKind.wrap_i64]
  omega
 rw[f1,f2,C2 _ _ qn qn]
 have g1:x.toNat * 65536 ||| y.toNat * 256=x.toNat * 65536+y.toNat * 256:=by
  have h:=Nat.two_pow_add_eq_or_of_lt (i:=16) (b:=y.toNat * 256) qn x.toNat
  rw[Nat.mul_comm x.toNat 65536]
  exact h.symm
 rw[g1,C2 _ _ qn qn]
 refine congrArg (fun n:Nat=>(n:Int)) ?_
 have h:256 * (x.toNat * 256+y.toNat)+z.toNat=256 * (x.toNat * 256+y.toNat) ||| z.toNat:=Nat.two_pow_add_eq_or_of_lt (i:=8) (b:=z.toNat) qn (x.toNat * 256+y.toNat)
 have e:x.toNat * 65536+y.toNat * 256=256 * (x.toNat * 256+y.toNat):=by omega
 rw[e,← h]
 omega
theorem vniS (b:List UInt8) (hb:b.length<100000):Sy.Spec Tryz.prog 382 [.sl 1 Ai b] [] (.tup [Aa (vniT b).1,.sl 1 Ai (vniT b).2.1,Aa (vniT b).2.2]) []:=Ab Γ hm 100 F382 Tryz.ntmps382 rfl fun F hF=>by
 have hres:=vniT.eq_1 b
 generalize vniT b=res at *
 conv=>whnf
 refine⟨fun h=>?_,fun h=>?_⟩
 ·rw[if_pos (by have:=of_decide_eq_true h;omega)]at hres
  subst hres
  refine rg ?_;conv=>whnf
  refine Ao 3 1 Ai E ?_
  exact Ac E (.cons .tmp (.cons .tmp (.cons .tmp .nil))) E E
 have h8:8≤b.length:=by have:=of_decide_eq_false h;omega
 rw[if_neg qn]at hres
 clear h
 have i4:(4:Int).toNat<b.length:=by show 4<_;omega
 have i5:(5:Int).toNat<b.length:=by show 5<_;omega
 have i6:(6:Int).toNat<b.length:=by show 6<_;omega
 have hv:bits .or .i64 (bits .or .i64 (IntKind.i64.wrap ((IntKind.i64.wrap ((b[(4:Int).toNat]'i4).toNat:Int)) * 2 ^ min (Int.toNat 16) IntKind.i64.bits)) (IntKind.i64.wrap ((IntKind.i64.wrap ((b[(5:Int).toNat]'i5).toNat:Int)) * 2 ^ min (Int.toNat 8) IntKind.i64.bits))) (IntKind.i64.wrap ((b[(6:Int).toNat]'i6).toNat:Int))
   = (numAt b 4 3:Int):=by
  rw[Aj1,numAt3 (show 4+3≤b.length by omega)]
  rfl
 have hvl:=Jx b 4 3
 refine rg ?_;conv=>whnf
 refine⟨E,by decide,i4,?_⟩
 conv=>whnf
 refine⟨by decide,?_⟩
 conv=>whnf
 refine⟨E,by decide,i5,?_⟩
 conv=>whnf
 refine⟨by decide,?_⟩
 conv=>whnf
 refine⟨E,by decide,i6,?_⟩
 conv=>whnf
 refine⟨qq,?_⟩
 rw[hv]
 generalize hvv:numAt b 4 3=v at *
 conv=>whnf
 by_cases h0:v=0
 ·rw[if_pos (.inl h0)]at hres
  subst hres
  have q:=Agu v (by rw[h0];decide)
  refine Ag q F350 E E E E E ?_
  (refine rg ?_;(conv=>whnf);refine aT ?_;refine rd qq ?_;conv=>whnf)
  refine⟨qq,?_⟩
  ((conv=>whnf);refine aT ?_;refine rg ?_;conv=>whnf)
  refine Ao 3 1 Ai E ?_
  exact Ac E (.cons .tmp (.cons .tmp (.cons .tmp .nil))) E E
 have q:=Alq v qn
 refine Ah (Aj [(0,55)] E F350 q E Y E ⟨.inr E,Y⟩) E E ?_
 refine At 55 E ?_
 (refine rg ?_;(conv=>whnf);refine aF ?_;refine rd qq ?_;conv=>whnf)
 refine Bo (H9 Γ.toTy (bs:=K9 v) E E E E E E E .sl) qq E ?_
 refine rd qq ?_;conv=>whnf
 refine Bo (Ci (lo:=0) (hi:=8) Γ.toTy E E E E (.inl ⟨E,E⟩) (.inr ⟨_,_,E,E⟩) qn h8) qq E ?_
 refine rd qq ?_;conv=>whnf
 refine Bo (H9 Γ.toTy (bs:=b.take 8) E E E E E E E .sl) qq E ?_
 refine rd qq ?_;conv=>whnf
 refine⟨qq,?_⟩
 conv=>whnf
 have hbe:=Aje (K9 v) (b.take 8)
 rw[hbe]
 by_cases he:b.take 8=K9 v
 rotate_left
 ·rw[if_pos (.inr he)]at hres
  subst hres
  rw[decide_eq_false (fun e=>he e.symm)]
  refine⟨fun _=>?_,fun h=>absurd h qx⟩
  refine rg ?_;conv=>whnf
  refine Ao 3 1 Ai E ?_
  exact Ac E (.cons .tmp (.cons .tmp (.cons .tmp .nil))) E E
 rw[if_neg (fun h=>h.elim h0 (fun h2=>h2 he))]at hres
 subst hres
 rw[decide_eq_true he.symm]
 have etk:(b.take b.length).drop 8=b.drop 8:=by rw[List.take_length]
 refine⟨fun h=>absurd h qx,fun _=>?_⟩
 refine rg ?_;conv=>whnf
 refine Ah (Ci (lo:=8) (hi:=b.length) Γ.toTy E E E E (.inr ⟨_,_,E,E⟩) (.inl ⟨E,E⟩) h8 (Nat.le_refl _)) E E ?_
 refine rg ?_;conv=>whnf
 refine Ah (Al Γ.toTy 45 E E E E E .nil .sl qy (by simp;omega) (by simp;omega)) E E ?_
 refine At 45 E ?_
 refine rg ?_;conv=>whnf
 refine Ac E (.cons .tmp (.cons .tmp (.cons .tmp .nil))) ?_ E
 show SV.tup [_,.sl 1 Ai (b.drop 8),_]=SV.tup [_,.sl 1 Ai ([]++(b.take b.length).drop 8),_]
 rw[etk]
 rfl
theorem Acp (a c v:Nat) (f:FrameM) (h:f.body.length≤1450):ipPutT (M5 a c v f)=(Sb (M5 a c v f),0):=by
 rw[ipPutT,if_neg (by rw[Hy];omega)]
theorem Ad5 (a b:Nat):udpPort a b≤65535:=by
 have:=Nat.mod_lt (a ^^^ b) (show 0<16384 by decide)
 unfold udpPort
 omega
theorem Ak0 (a c v:Nat) (f:FrameM) (ha:a<4294967296) (hc:c<4294967296) (h:f.body.length≤1450):FrameOK ⟨E5 c,E5 a,2048,Sb (M5 a c v f)⟩ :=
 ⟨Wo c hc,Wo a ha,by show (2048:Nat)≤65535;decide,by show (Sb (M5 a c v f)).length≤1504;rw[Lz,Hy];omega⟩
theorem Amw (a c:Nat) (v:Int) (f:FrameM) (ha:a<4294967296) (hc:c<4294967296) (hf:FrameOK f) :
  Sy.Spec Tryz.prog 303 [Bm a,Bm c,Aa v,B6 f] [] (.tup [.sl 1 Ai (wrapT a c v f).1,Aa (wrapT a c v f).2]) []:=Ab Γ hm 100 F303 Tryz.ntmps303 rfl fun F hF=>by
 have hres:=wrapT.eq_1 a c v f
 generalize wrapT a c v f=res at *
 have q0:=Mi f
 have hd:=hf.dst
 have hs:=hf.src
 have hb:=hf.body
 have hpl:=Ew f
 conv=>whnf
 refine Be 7 4 (B6 f) E E E ?_
 by_cases ht:f.typ=33024
 ·rw[if_pos ht]at hres
  subst hres
  rw[decide_eq_true ht]at q0
  refine rg ?_;conv=>whnf
  refine Ag q0 F182 E E E E E ?_
  (refine rg ?_;(conv=>whnf);refine aT ?_;refine rg ?_;conv=>whnf)
  refine Ao 8 1 Ai E ?_
  exact Ac E (.cons .tmp (.cons .tmp .nil)) E E
 rw[if_neg ht]at hres
 rw[decide_eq_false ht]at q0
 refine rg ?_;conv=>whnf
 refine Ag q0 F182 E E E E E ?_
 (refine rg ?_;(conv=>whnf);refine aF ?_;refine rg ?_;conv=>whnf)
 refine Ah (Aj [(0,55)] E F45 (Ia f hf) E Y E ⟨.inr E,Y⟩) E E ?_
 refine At 55 E ?_
 (refine rg ?_;(conv=>whnf);refine aF ?_;refine rg ?_;conv=>whnf)
 cases hv:Tb v
 rotate_left
 ·rw[if_pos hv]at hres
  subst hres
  refine Ag (Agu v hv) F350 E E E E E ?_
  (refine rg ?_;(conv=>whnf);refine aT ?_;refine rg ?_;conv=>whnf)
  refine Ao 8 1 Ai E ?_
  exact Ac E (.cons .tmp (.cons .tmp .nil)) E E
 rw[if_neg (by rw[hv];decide)]at hres
 have hvg:=Ajt hv
 obtain ⟨k,rfl⟩:=Int.eq_ofNat_of_zero_le (show 0≤v by omega)
 rw[Int.toNat_natCast]at hres
 refine Ah (Aj [(0,56)] E F350 (Alq k qn) E Y E ⟨.inr E,Y⟩) E E ?_
 (refine rg ?_;(conv=>whnf);refine aF ?_;refine rg ?_;conv=>whnf)
 refine⟨fun h=>?_,fun h=>?_⟩
 ·rw[if_pos (by have:=of_decide_eq_true h;omega)]at hres
  subst hres
  refine rg ?_;conv=>whnf
  refine Ao 8 1 Ai E ?_
  exact Ac E (.cons .tmp (.cons .tmp .nil)) E E
 have hl:f.body.length≤1450:=by have:=of_decide_eq_false h;omega
 rw[if_neg qn]at hres
 subst hres
 clear h
 have qp:=Ajz f.dst f.src qn qn
 have hpo:=Ad5 f.dst f.src
 have qu:=Amy (udpPort f.dst f.src) 4789 (K9 k++M1 f) hpo qx (by rw[List.length_append,H8,hpl];omega)
 have hwb:(M5 a c k f).body=Ajy (udpPort f.dst f.src) 4789 (K9 k++M1 f):=rfl
 have qi:=Z7 (M5 a c k f) (Ajq a c k f ha hc) (by rw[Hy];omega)
 rw[Acp a c k f hl]at qi
 have qe:=Ia _ (Ak0 a c k f ha hc hl)
 refine rg ?_;conv=>whnf
 refine Ag qp F352 E E E E E ?_
 refine rg ?_;conv=>whnf
 refine Ah (Al Γ.toTy 46 E E E E E (.row E) .sl qx (by rw[H8,hpl];simp;omega) (by rw[H8,hpl];omega)) E E ?_
 refine At 46 E ?_
 refine rg ?_;conv=>whnf
 refine Ag qu F351 E E E E E ?_
 refine rg ?_;conv=>whnf
 refine Ag qi F43 E E E E E ?_
 refine rg ?_;conv=>whnf
 refine Ag (Yv c hc) F44 E E E E E ?_
 refine rg ?_;conv=>whnf
 refine Ag (Yv a ha) F44 E E E E E ?_
 refine rg ?_;conv=>whnf
 refine Ah (Aj [(0,57)] E F45 qe E Y E ⟨.inr E,Y⟩) E E ?_
 refine At 57 E ?_
 refine rg ?_;conv=>whnf
 exact Ac E (.cons .tmp (.cons .tmp .nil)) E E
def Cy (p:PacketM) (v e:Int):List SV:=[Aa p.tos,Aa p.id,Aa p.ttl,Aa p.proto,Bm p.src,Bm p.dst,.sl 1 Ai p.body,Aa v,Aa e]
def Ch (is:Bool) (re e:Int):Int:=if is=true∧re=0 then e else re
theorem Sr (p:PacketM) (v re:Int) (is:Bool) (e:Int):Sy.Spec Tryz.prog 380 [.ptr 0 0,Ad is,Aa e] [(0,.box (Cy p v re))] (.tup []) [(0,.box (Cy p v (Ch is re e)))]:=Ab Γ hm 100 F380 Tryz.ntmps380 rfl fun F hF=>by
 cases is
 ·have h:Ch false re e=re:=by simp[Ch]
  rw[h]
  ((conv=>whnf);refine aF ?_;refine rg ?_;(conv=>whnf);refine aF ?_;refine rg ?_;conv=>whnf)
  exact Ba E .nil [] [(0,.box (Cy p v re))] (fun _ h=>h) E E ⟨Y,⟨.inl E,E,Y⟩,E,E⟩
 ·((conv=>whnf);refine aT ?_;refine rg ?_;conv=>whnf)
  refine⟨fun h=>?_,fun h=>?_⟩
  ·have h2:Ch true re e=e:=by show (if true=true∧re=0 then e else re)=e;rw[if_pos ⟨rfl,by simpa using h⟩]
   rw[h2]
   refine rg ?_;conv=>whnf
   exact Ba E .nil [] [(0,.box (Cy p v e))] (fun _ h=>h) E E ⟨Y,⟨.inl E,E,Y⟩,E,E⟩
  ·have h2:Ch true re e=re:=by
    show (if true=true∧re=0 then e else re)=re
    rw[if_neg (fun h3=>by
     have h4:¬ re=0:=by simpa using h
     exact h4 h3.2)]
   rw[h2]
   refine rg ?_;conv=>whnf
   exact Ba E .nil [] [(0,.box (Cy p v re))] (fun _ h=>h) E E ⟨Y,⟨.inl E,E,Y⟩,E,E⟩
theorem Am8 (b:List UInt8) (hb:b.length<100000):Sy.Spec Tryz.prog 357 [.ptr 0 0,.sl 1 Ai b] [(0,.box (Cy noP 0 0))] (.tup []) [(0,.box (Cy (outerT b).1 0 (outerT b).2))]:=Ab Γ hm 100 F357 Tryz.ntmps357 rfl fun F hF=>by
 have hres:=outerT.eq_1 b
 generalize outerT b=res at *
 have q1:=Kz b hb
 have hbad:=@Ahd b
 have hok:=@Vn b
 generalize takeF b=tk at *
 obtain ⟨f,e⟩:=tk
 dsimp only at hres q1 hbad hok
 conv=>whnf
 refine Ag q1 F121 E E E E E ?_
 refine rg ?_;conv=>whnf
 refine Ah (Aj [(0,0)] E F380 (Sr noP 0 0 true e) E ⟨E,Y⟩ E ⟨.inl E,Y⟩) E E ?_
 rw[show Ch true 0 e=e by simp[Ch]]
 refine rg ?_;conv=>whnf
 refine Ah (Aj [(0,0)] E F380 (Sr noP 0 e ((f.typ:Int) != 2048) 11) E ⟨E,Y⟩ E ⟨.inl E,Y⟩) E E ?_
 by_cases he:e=0
 rotate_left
 ·rw[if_pos he]at hres
  subst hres
  rw[show Ch ((f.typ:Int) != 2048) e 11=e by simp[Ch,he]]
  refine rg ?_;conv=>whnf
  refine⟨fun h=>absurd (show e=0 by simpa using h) he,fun _=>?_⟩
  refine rg ?_;conv=>whnf
  exact Ba E .nil [] [(0,.box (Cy noP 0 e))] (fun _ h=>h) E E ⟨Y,⟨.inl E,E,Y⟩,E,E⟩
 subst he
 rw[if_neg qy]at hres
 by_cases ht:f.typ=2048
 rotate_left
 ·rw[if_pos ht]at hres
  subst hres
  have hb2:((f.typ:Int) != 2048)=true:=by simp;omega
  rw[hb2,show Ch true 0 11=11 by simp[Ch]]
  (refine rg ?_;(conv=>whnf);refine aF ?_;refine rg ?_;conv=>whnf)
  exact Ba E .nil [] [(0,.box (Cy noP 0 11))] (fun _ h=>h) E E ⟨Y,⟨.inl E,E,Y⟩,E,E⟩
 rw[if_neg (fun h=>h ht)]at hres
 have hb2:((f.typ:Int) != 2048)=false:=by simp;omega
 rw[hb2,show Ch false 0 11=0 by simp[Ch]]
 have hfb:=(hok rfl).body
 have q2:=Agr f.body qn
 have hib:=@Aoj f.body
 generalize ipTakeT f.body=ip at *
 obtain ⟨p,e2⟩:=ip
 dsimp only at hres q2 hib
 (refine rg ?_;(conv=>whnf);refine aT ?_;refine rg ?_;conv=>whnf)
 refine Ag q2 F297 E E E E E ?_
 refine rg ?_;conv=>whnf
 refine Ah (Aj [(0,0)] E F380 (Sr p 0 0 true e2) E ⟨E,Y⟩ E ⟨.inl E,Y⟩) E E ?_
 rw[show Ch true 0 e2=e2 by simp[Ch]]
 refine rg ?_;conv=>whnf
 refine Ah (Aj [(0,0)] E F380 (Sr p 0 e2 ((p.proto:Int) != 17) 11) E ⟨E,Y⟩ E ⟨.inl E,Y⟩) E E ?_
 have hfin:res=(p,Ch ((p.proto:Int) != 17) e2 11):=by
  by_cases h2:e2=0
  ·subst h2
   rw[if_neg qy]at hres
   rw[hres]
   simp only[Ch]
   by_cases h3:p.proto=17
   ·rw[if_neg (by simp[h3]),if_neg (by simp[h3])]
   ·rw[if_pos h3,if_pos (by simp;omega)]
  ·rw[if_pos h2]at hres
   rw[hres,hib h2,show Ch ((noP.proto:Int) != 17) e2 11=e2 by simp[Ch,h2]]
 rw[hfin]
 refine rg ?_;conv=>whnf
 exact Ba E .nil [] [(0,.box (Cy p 0 (Ch ((p.proto:Int) != 17) e2 11)))] (fun _ h=>h) E E ⟨Y,⟨.inl E,E,Y⟩,E,E⟩
def frameT (p:PacketM) (e:Int):FrameM × Int × Int :=
 if e≠0 then (noF,0,e) else if (udpTakeT p.body).2.2.2≠0 then (noF,0,(udpTakeT p.body).2.2.2) else if (udpTakeT p.body).2.1≠4789 then (noF,0,11)
 else if (vniT (udpTakeT p.body).2.2.1).2.2≠0 then (noF,(vniT (udpTakeT p.body).2.2.1).1,(vniT (udpTakeT p.body).2.2.1).2.2)
 else ((takeF (vniT (udpTakeT p.body).2.2.1).2.1).1,(vniT (udpTakeT p.body).2.2.1).1,
  if (takeF (vniT (udpTakeT p.body).2.2.1).2.1).2≠0 then (takeF (vniT (udpTakeT p.body).2.2.1).2.1).2 else if (takeF (vniT (udpTakeT p.body).2.2.1).2.1).1.typ=33024 then 15 else 0)
theorem frameS (p:PacketM) (e:Int) (hb:p.body.length<100000):Sy.Spec Tryz.prog 358 [.ptr 0 0] [(0,.box (Cy p 0 e))] (B6 (frameT p e).1) [(0,.box (Cy p (frameT p e).2.1 (frameT p e).2.2))]:=Ab Γ hm 100 F358 Tryz.ntmps358 rfl fun F hF=>by
 have hres:=frameT.eq_1 p e
 generalize frameT p e=res at *
 have q1:=Ajx p.body hb
 have hul:=@Ams p.body
 generalize udpTakeT p.body=u at *
 obtain ⟨u1,u2,u3,u4⟩:=u
 dsimp only at hres q1 hul
 have q2:=vniS u3 qn
 have hvl:=@vniT_body u3
 generalize vniT u3=w at *
 obtain ⟨w1,w2,w3⟩:=w
 dsimp only at hres q2 hvl
 have q3:=Kz w2 qn
 have hbad:=@Ahd w2
 generalize takeF w2=t at *
 obtain ⟨f,t2⟩:=t
 dsimp only at hres q3 hbad
 conv=>whnf
 refine⟨fun h=>?_,fun h=>?_⟩
 ·rw[if_pos (by simpa using h)]at hres
  subst hres
  refine rg ?_;conv=>whnf
  refine Bc 2 zF E (.cons (.refl _) (.cons (.refl _) (.cons (.refl _) (.cons .nil .nil)))) ?_
  exact done E (.cons (.cell E E E E) .nil) [] [(0,.box (Cy p 0 e))] (fun _ h=>h) E E ⟨Y,⟨.inl E,E,Y⟩,E,E⟩
 have he:e=0:=by simpa using h
 clear h
 subst he
 rw[if_neg qy]at hres
 refine rg ?_;conv=>whnf
 refine Ag q1 F381 E E E E E ?_
 refine rg ?_;conv=>whnf
 refine Ah (Aj [(0,0)] E F380 (Sr p 0 0 true u4) E ⟨E,Y⟩ E ⟨.inl E,Y⟩) E E ?_
 rw[show Ch true 0 u4=u4 by simp[Ch]]
 refine rg ?_;conv=>whnf
 refine Ah (Aj [(0,0)] E F380 (Sr p 0 u4 (u2 != 4789) 11) E ⟨E,Y⟩ E ⟨.inl E,Y⟩) E E ?_
 by_cases h4:u4=0
 rotate_left
 ·rw[if_pos h4]at hres
  subst hres
  rw[show Ch (u2 != 4789) u4 11=u4 by simp[Ch,h4]]
  refine rg ?_;conv=>whnf
  refine⟨fun h=>absurd (show u4=0 by simpa using h) h4,fun _=>?_⟩
  refine rg ?_;conv=>whnf
  refine⟨fun _=>?_,fun h=>absurd (show u4=0 by simpa using h) h4⟩
  refine rg ?_;conv=>whnf
  refine Bc 2 zF E (.cons (.refl _) (.cons (.refl _) (.cons (.refl _) (.cons .nil .nil)))) ?_
  exact done E (.cons (.cell E E E E) .nil) [] [(0,.box (Cy p 0 u4))] (fun _ h=>h) E E ⟨Y,⟨.inl E,E,Y⟩,E,E⟩
 subst h4
 rw[if_neg qy]at hres
 by_cases h2:u2=4789
 rotate_left
 ·rw[if_pos h2]at hres
  subst hres
  rw[show Ch (u2 != 4789) 0 11=11 by simp[Ch,h2]]
  (refine rg ?_;(conv=>whnf);refine aF ?_;refine rg ?_;(conv=>whnf);refine aT ?_;refine rg ?_;conv=>whnf)
  refine Bc 2 zF E (.cons (.refl _) (.cons (.refl _) (.cons (.refl _) (.cons .nil .nil)))) ?_
  exact done E (.cons (.cell E E E E) .nil) [] [(0,.box (Cy p 0 11))] (fun _ h=>h) E E ⟨Y,⟨.inl E,E,Y⟩,E,E⟩
 rw[if_neg (fun h=>h h2)]at hres
 rw[show Ch (u2 != 4789) 0 11=0 by simp[Ch,h2]]
 (refine rg ?_;(conv=>whnf);refine aT ?_;refine rg ?_;conv=>whnf)
 refine Ag q2 F382 E E E E E ?_
 refine rg ?_;conv=>whnf
 refine Ah (Aj [(0,0)] E F380 (Sr p w1 0 true w3) E ⟨E,Y⟩ E ⟨.inl E,Y⟩) E E ?_
 rw[show Ch true 0 w3=w3 by simp[Ch]]
 refine rg ?_;conv=>whnf
 refine⟨fun h=>?_,fun h=>?_⟩
 ·rw[if_pos (by simpa using h)]at hres
  subst hres
  refine rg ?_;conv=>whnf
  refine Bc 2 zF E (.cons (.refl _) (.cons (.refl _) (.cons (.refl _) (.cons .nil .nil)))) ?_
  exact done E (.cons (.cell E E E E) .nil) [] [(0,.box (Cy p w1 w3))] (fun _ h=>h) E E ⟨Y,⟨.inl E,E,Y⟩,E,E⟩
 have h3:w3=0:=by simpa using h
 clear h
 subst h3
 rw[if_neg qy]at hres
 refine rg ?_;conv=>whnf
 refine Ag q3 F121 E E E E E ?_
 refine rg ?_;conv=>whnf
 refine Ah (Aj [(0,0)] E F380 (Sr p w1 0 true t2) E ⟨E,Y⟩ E ⟨.inl E,Y⟩) E E ?_
 rw[show Ch true 0 t2=t2 by simp[Ch]]
 refine rg ?_;conv=>whnf
 refine Ag (Mi f) F182 E E E E E ?_
 refine rg ?_;conv=>whnf
 refine Ah (Aj [(0,0)] E F380 (Sr p w1 t2 (decide (f.typ=33024)) 15) E ⟨E,Y⟩ E ⟨.inl E,Y⟩) E E ?_
 have hfin:Ch (decide (f.typ=33024)) t2 15=if t2≠0 then t2 else if f.typ=33024 then 15 else 0:=by
  by_cases k1:t2=0
  ·subst k1
   rw[if_neg qy]
   by_cases k2:f.typ=33024<;>simp[Ch,k2]
  ·rw[if_pos k1]
   simp[Ch,k1]
 rw[← hfin]at hres
 subst hres
 refine rg ?_;conv=>whnf
 exact done E (.cons (.cell E E E E) .nil) [] [(0,.box (Cy p w1 (Ch (decide (f.typ=33024)) t2 15)))] (fun _ h=>h) E E ⟨Y,⟨.inl E,E,Y⟩,E,E⟩
theorem Zf (b:List UInt8):Bu b=if (frameT (outerT b).1 (outerT b).2).2.2≠0 then (0,0,0,noF,(frameT (outerT b).1 (outerT b).2).2.2)
  else ((outerT b).1.src,(outerT b).1.dst,(frameT (outerT b).1 (outerT b).2).2.1,(frameT (outerT b).1 (outerT b).2).1,0):=by
 unfold Bu
 generalize outerT b=o
 obtain ⟨p,e⟩:=o
 dsimp only
 by_cases he:e=0
 rotate_left
 ·rw[if_pos he]
  have h1:frameT p e=(noF,0,e):=by rw[frameT,if_pos he]
  rw[h1,if_pos he]
 subst he
 rw[if_neg qy]
 unfold Jk frameT
 rw[if_neg (show ¬ (0:Int)≠0 by simp)]
 generalize udpTakeT p.body=u
 obtain ⟨u1,u2,u3,u4⟩:=u
 dsimp only
 by_cases h4:u4=0
 rotate_left
 ·rw[if_pos h4,if_pos h4,if_pos h4]
  dsimp only
  rw[if_pos h4]
 subst h4
 simp only[ne_eq,not_true_eq_false,if_false]
 by_cases h2:u2=4789
 rotate_left
 ·simp[h2]
 simp only[h2,not_true_eq_false,if_false]
 generalize vniT u3=w
 obtain ⟨w1,w2,w3⟩:=w
 dsimp only
 by_cases h3:w3=0
 rotate_left
 ·simp[h3]
 simp only[h3,not_true_eq_false,if_false]
 generalize takeF w2=t
 obtain ⟨f,t2⟩:=t
 dsimp only
 by_cases k1:t2=0
 ·by_cases k2:f.typ=33024<;>simp[k1,k2]
 ·simp[k1]
theorem Ag9 (b:List UInt8) (hb:b.length<100000) :
  Sy.Spec Tryz.prog 308 [.sl 1 Ai b] [] (.tup [Bm (Bu b).1,Bm (Bu b).2.1,Aa (Bu b).2.2.1,B6 (Bu b).2.2.2.1,Aa (Bu b).2.2.2.2]) []:=Ab Γ hm 100 F308 Tryz.ntmps308 rfl fun F hF=>by
 have hres:=Zf b
 generalize Bu b=res at *
 have q1:=Am8 b hb
 have hol:=(Tl b).2
 generalize outerT b=o at *
 obtain ⟨p,e⟩:=o
 dsimp only at hres q1 hol
 have q2:=frameS p e qn
 generalize frameT p e=fr at *
 obtain ⟨f,v,e2⟩:=fr
 dsimp only at hres q2
 conv=>whnf
 refine Bc 9 (Cy noP 0 0) E (.cons (.refl _) (.cons (.refl _) (.cons (.refl _) (.cons (.refl _) (.cons (.refl _) (.cons (.refl _) (.cons .nil (.cons (.refl _) (.cons (.refl _) .nil))))))))) ?_
 refine rg ?_;conv=>whnf
 refine Ah (Aj [(0,9)] E F357 q1 E ⟨E,Y⟩ E ⟨.inl E,Y⟩) E E ?_
 refine rg ?_;conv=>whnf
 refine Ah (Aj [(0,9)] E F358 q2 E ⟨E,Y⟩ E ⟨.inl E,Y⟩) E E ?_
 refine rg ?_;conv=>whnf
 refine⟨fun h=>?_,fun h=>?_⟩
 ·rw[if_pos (by simpa using h)]at hres
  subst hres
  refine rg ?_;conv=>whnf
  refine⟨qq,?_⟩
  conv=>whnf
  refine Bc 5 zF E (.cons (.refl _) (.cons (.refl _) (.cons (.refl _) (.cons .nil .nil)))) ?_
  exact Ac E (.cons .tmp (.cons .tmp (.cons .tmp (.cons (.cell E E E E) (.cons .tmp .nil))))) E E
 rw[if_neg (by simpa using h)]at hres
 subst hres
 refine rg ?_;conv=>whnf
 refine⟨qq,?_⟩
 conv=>whnf
 exact Ac E (.cons .tmp (.cons .tmp (.cons .tmp (.cons (.cell E E E E) (.cons .tmp .nil))))) E E
end Go.Sy.YteinjapglfkamaaGreat
namespace Go.Sy
structure Meth (P:Program) (t:TypeId) (name:String) (f:FuncId) (pr:Bool) (e:TypeId):Prop where
 row:∃ i m,P.info? t=some i∧i.methods.find? (·.name == name)=some m∧m.path=#[]∧m.func=some (f,pr)
 under:P.underlying t=some (.pointer e)
theorem Vv {P:Program} {t:TypeId} {name:String} {f:FuncId} {e:TypeId} (hm:Meth P t name f true e) (w:World) (v:Value):(Go.method (P.types.size+Made.depth) t v name).run P w=.ok (f,v) w:=by
 obtain ⟨⟨i,m,h1,h2,h3,h4⟩,hu⟩:=hm
 show (Go.method (P.types.size+99+1) t v name).run P w=_
 rw[Go.method]
 simp only[Sem.run_bind,run_typeInfo w h1,Result.andThen_ok,h2,h3,Go.follow,Sem.run_pure,h4,Go.receiverAt,run_underlying hu,Go.Place.get]
theorem Vu {P:Program} {t:TypeId} {name:String} {f:FuncId} {e:TypeId} (hm:Meth P t name f false e) (w:World) (a:Addr) {v:Value} (hv:(loadVar e a).run P w=.ok v w):(Go.method (P.types.size+Made.depth) t (.pointer (some a)) name).run P w=.ok (f,v) w:=by
 obtain ⟨⟨i,m,h1,h2,h3,h4⟩,hu⟩:=hm
 show (Go.method (P.types.size+99+1) t (.pointer (some a)) name).run P w=_
 rw[Go.method]
 have he:(#[]:Array FieldStep).isEmpty=true:=rfl
 simp only[Sem.run_bind,run_typeInfo w h1,Result.andThen_ok,h2,h3,Go.follow,Sem.run_pure,h4,Go.receiverAt,run_underlying hu,Go.Place.get,he,if_true]
 have hs : ∀ n : String, (Builtin.ssaWrapNilChk_ #[t] t #[.pointer (some a), strVal "", strVal n]).run P w = .ok (.pointer (some a)) w := fun n => rfl
 simp only[hs,Result.andThen_ok,asAddr,Sem.run_pure,hv]
theorem On {P:Program} {o:Oper} {s:SS} {rd:List Nat} {f:FuncId} {fn:Func} {c:Code} {t e:TypeId} {name:String} {x:Operand} {xs:List Operand} {ts:Array TypeId} {y:SV} (hm:Meth P t name f true e) (hf:Fun P f fn c) (h:o.op=.call ⟨.invoke x name,xs.toArray,ts⟩) (hx:ev s x=.ifc t y) :
  K4 P o s rd f (y::xs.map (ev s)) :=
 fun κ a w hr _=>by
  have h1:=hr x (by simp[h,Op.operands,Call.operands])
  rw[hx]at h1
  simp only[Rd]at h1
  obtain ⟨u,e1,e2⟩:=h1
  refine⟨u::xs.map a.eval,?_,?_⟩
  ·have hcall:=H1 hf (u::xs.map a.eval).toArray w
   have hmeth:=Vv hm w u
   simp only[execOp,h,resolve,invoke,e1,Sem.run_bind,Sem.run_pure,Result.andThen_ok]at hcall ⊢
   simp only[callMethod]
   rw[← hcall]
   have htk:(xs.map a.eval).take xs.length=xs.map a.eval:=List.take_of_length_le qy
   simp[hmeth,Sem.run_bind,htk]
  ·simp only[RdL]
   exact⟨_,_,E,e2,I9 xs (fun y hy=>hr y (by simp[h,Op.operands,Call.operands,hy]))⟩
theorem Bf {P:Program} (Γ:Ty P) {o:Oper} {s:SS} {f:FuncId} {fn:Func} {c:Code} {t e:TypeId} {ti:TI} {name:String} {x:Operand} {xs:List Operand} {ts:Array TypeId} {k off:Nat} {l:List SV} {z:SV} (hm:Meth P t name f false e) (hf:Fun P f fn c) (h:o.op=.call ⟨.invoke x name,xs.toArray,ts⟩)
  (hx:ev s x=.ifc t (.ptr k off)) (hk:s.h k=.box l) (ht:Γ.get e=some ti) (hz:Io ti l off=some z):K4 P o s [k] f (z::xs.map (ev s)) :=
 fun κ a w hr ho=>by
  have h1:=hr x (by simp[h,Op.operands,Call.operands])
  rw[hx]at h1
  simp only[Rd]at h1
  obtain ⟨u,e1,e2⟩:=h1
  have hob:=ho k qy
  rw[hk]at hob
  obtain ⟨b,f1,f2⟩:=hob.cellsAt
  rw[f1]at e2
  simp only at e2
  subst e2
  obtain ⟨v,g1,g2⟩:=If (P:=P) Γ ht f2 hz
  rw[Nat.zero_add]at g1
  refine⟨v::xs.map a.eval,?_,?_⟩
  ·have hcall:=H1 hf (v::xs.map a.eval).toArray w
   have hmeth:=Vu hm w ⟨b,off,none⟩ g1
   simp only[execOp,h,resolve,invoke,e1,Sem.run_bind,Sem.run_pure,Result.andThen_ok]at hcall ⊢
   simp only[callMethod]
   rw[← hcall]
   have htk:(xs.map a.eval).take xs.length=xs.map a.eval:=List.take_of_length_le qy
   simp[hmeth,Sem.run_bind,htk]
  ·simp only[RdL]
   exact⟨_,_,E,g2,I9 xs (fun y hy=>hr y (by simp[h,Op.operands,Call.operands,hy]))⟩
theorem Uj {P:Program} (Γ:Ty P) {o:Oper} {s:SS} {x:Operand} {xt t:TypeId} {ti:TI} {y:SV} {ok:Bool} (h:o.op=.typeAssert x xt t ok) (hx:ev s x=.ifc t y) (ht:Γ.get t=some ti) (hk:ti.k matches .bool | .int _ | .string | .slice .. | .struct _ | .ptr | .func) :
  Good P o s ⟨if ok then .tup [y,Ad true] else y,[],[]⟩ :=
 Good.pure fun κ a w _ hr _=>by
  have h1:=hr x (by simp[h,Op.operands])
  rw[hx]at h1
  simp only[Rd]at h1
  obtain ⟨u,e1,e2⟩:=h1
  obtain ⟨d,info,z,k1,k2,_⟩:=Γ.ok t ti ht
  have hni:∀ ms,d≠.interface ms:=by
   obtain ⟨k,n,zz⟩:=ti
   intro ms hd
   subst hd
   cases k<;>simp_all[TK.ok]
  have hrun:(Instr.typeAssert (.iface t u) xt t ok).run P w=.ok (if ok then .tuple #[u,.bool true] else u) w:=by
   cases d<;>first
    | exact absurd rfl (hni _)
    | (cases ok<;>simp[Instr.typeAssert,run_underlying k1])
  refine⟨if ok then .tuple #[u,.bool true] else u,by simp[execOp,h,e1,hrun],?_⟩
  cases ok
  ·exact e2
  ·simp only[if_true,Rd,RdL]
   exact⟨[u,.bool true],E,_,_,E,e2,_,_,E,by simp[Ad,Rd],E⟩
def Aoi (P:Program) (t:TypeId) (name:String) (f:FuncId) (pr:Bool):Bool :=
 match P.info? t with
 | some i=>(match i.methods.find? (·.name == name) with
  | some m=>m.path.isEmpty && (match m.func with | some (g,b)=>Nat.beq g f && (b == pr) | none=>false)
  | none=>false)
 | none=>false
theorem Meth.of {P:Program} {t:TypeId} {name:String} {f:FuncId} {pr:Bool} {e:TypeId} (h:Aoi P t name f pr=true) (hu:P.underlying t=some (.pointer e)):Meth P t name f pr e:=by
 refine⟨?_,hu⟩
 unfold Aoi at h
 split at h
 ·rename_i i hi
  split at h
  ·rename_i m hm
   simp only[Bool.and_eq_true]at h
   obtain ⟨h1,h2⟩:=h
   split at h2
   ·rename_i g b hf
    simp only[Bool.and_eq_true,beq_iff_eq]at h2
    obtain ⟨h3,rfl⟩:=h2
    have h3:=Nat.eq_of_beq_eq_true h3
    subst h3
    exact⟨i,m,hi,hm,by simpa using h1,hf⟩
   ·cases h2
  ·cases h
 ·cases h
end Go.Sy
namespace Go.Sy.YteinjapglfkamaaGreat
open Go.Proofs
attribute [local irreducible] Go.Sy.G Go.Sy.DR
set_option maxRecDepth 20000
set_option maxHeartbeats 4000000
structure Item where
 (root cost dev:Int)
instance:Inhabited Item:=⟨⟨0,0,0⟩⟩
def Bi (x:Item):SV:=.agg [Aa x.root,Aa x.cost,Aa x.dev]
def Bt (x y:Item):Bool:=decide (x.root<y.root) || (x.root == y.root && decide (x.cost<y.cost))
theorem Tj (q:List Item):Sy.Spec Tryz.prog 287 [.sl 3 Bi q] [] (Aa q.length) []:=Ab Γ hm 100 F287 Tryz.ntmps287 rfl fun F hF=>by
 conv=>whnf
 exact Ac E (.cons .tmp .nil) E E
theorem Ij (q:List Item) (i j:Nat) (hi:i<q.length) (hj:j<q.length):Sy.Spec Tryz.prog 421 [.sl 3 Bi q,Aa i,Aa j] [] (Ad (Bt q[i] q[j])) []:=Ab Γ hm 100 F421 Tryz.ntmps421 rfl fun F hF=>by
 have e1:q[(i:Int).toNat]'qn=q[i]:=rfl
 have e2:q[(j:Int).toNat]'qn=q[j]:=rfl
 conv=>whnf
 (repeat' (first | (refine⟨fun h=>?_,fun h=>?_⟩<;>(repeat (first | simp only[decide_eq_true_eq]at h | simp only[decide_eq_false_iff_not]at h | simp only[beq_iff_eq]at h | simp only[beq_eq_false_iff_ne]at h))<;>((refine rd qq ?_);(conv=>whnf))) | (refine Ac rfl (.cons .tmp .nil) ?_ rfl) | (refine⟨qq,?_⟩;((conv=>whnf))) | (refine⟨by (omega),by (omega),?_⟩;((conv=>whnf)))))
 all_goals (refine congrArg Ad ?_;clear hF;grind [Bt])
theorem Ii (q:List Item) (i j:Nat) (hi:i<q.length) (hj:j<q.length):Sy.Spec Tryz.prog 424 [.osl 0,Aa i,Aa j] [(0,.row 3 Bi q)] (.tup []) [(0,.row 3 Bi ((q.set i q[j]).set j q[i]))]:=Ab Γ hm 100 F424 Tryz.ntmps424 rfl fun F hF=>by
 have e1:q[(i:Int).toNat]'qn=q[i]:=rfl
 have e2:q[(j:Int).toNat]'qn=q[j]:=rfl
 conv=>whnf
 refine⟨by omega,by omega,?_⟩
 conv=>whnf
 refine⟨E,by omega,?_⟩
 rw[e2]
 conv=>whnf
 refine⟨by omega,by omega,?_⟩
 conv=>whnf
 refine⟨E,by omega,?_⟩
 rw[e1]
 conv=>whnf
 refine⟨by omega,by omega,?_⟩
 conv=>whnf
 refine⟨E,by omega,q[j],E,E,?_⟩
 conv=>whnf
 refine⟨by omega,by simp;omega,?_⟩
 conv=>whnf
 refine⟨E,by simp;omega,q[i],E,E,?_⟩
 conv=>whnf
 refine⟨qq,?_⟩
 conv=>whnf
 exact Ba E .nil [] [(0,.row 3 Bi ((q.set i q[j]).set j q[i]))] (fun _ h=>h) E E ⟨Y,⟨.inl E,E,Y⟩,E,E⟩
theorem Aep (q:List Item) (x:Item) (hq:q.length<1000000):Sy.Spec Tryz.prog 423 [.ptr 0 0,.ifc 402 (Bi x)] [(0,.box [.osl 1]),(1,.row 3 Bi q)] (.tup []) [(0,.box [.osl 2]),(1,.non),(2,.row 3 Bi (q++[x]))]:=Ab Γ hm 100 F423 Tryz.ntmps423 rfl fun F hF=>by
 conv=>whnf
 refine Ah (Uj Γ.toTy E E E E) E E ?_
 (refine rg ?_;(conv=>whnf);refine aT ?_;refine rg ?_;conv=>whnf)
 refine Bo (Al Γ.toTy 18 E E E E E (.row E) (.lit (l:=[x]) E E) qy (by simp;omega) (by simp;omega)) qq E ?_
 refine rd qq ?_;conv=>whnf
 refine⟨qq,?_⟩
 conv=>whnf
 exact Ba E .nil [(2,18)] [(0,.box [.osl 2]),(1,.non),(2,.row 3 Bi (q++[x]))] (fun _ h=>h) E E ⟨Y,⟨.inl E,E,.inl E,E,.inl E,E,Y⟩,E,E⟩
theorem Ah7 (q:List Item) (hq:q≠[]) (hl:q.length<1000000):Sy.Spec Tryz.prog 422 [.ptr 0 0] [(0,.box [.osl 1]),(1,.row 3 Bi q)] (.ifc 402 (Bi (q.getLast hq))) [(0,.box [.osl 2]),(1,.non),(2,.row 3 Bi q.dropLast)]:=Ab Γ hm 100 F422 Tryz.ntmps422 rfl fun F hF=>by
 have h0:0<q.length:=List.length_pos_iff.2 hq
 have e1:q[((q.length:Int)-1).toNat]'qn=q.getLast hq:=by
  rw[List.getLast_eq_getElem]
  congr 1
  omega
 conv=>whnf
 refine⟨by unfold I64;omega,?_⟩
 conv=>whnf
 refine⟨by omega,by omega,?_⟩
 conv=>whnf
 refine⟨E,by omega,?_⟩
 rw[e1]
 conv=>whnf
 refine⟨qq,?_⟩
 conv=>whnf
 refine⟨by unfold I64;omega,?_⟩
 conv=>whnf
 refine Bo (Wq Γ.toTy (d:=23) (hi:=q.length-1) E E E E E qx E (.inl ⟨E,E⟩) (.inr ⟨_,_,E,congrArg (fun z=>SV.val (.int .i64 z)) qn⟩) qn) qq E ?_
 rw[← List.dropLast_eq_take]
 refine rd qq ?_;conv=>whnf
 refine⟨qq,?_⟩
 conv=>whnf
 exact done E (.cons .tmp .nil) [(2,23)] [(0,.box [.osl 2]),(1,.non),(2,.row 3 Bi q.dropLast)] (fun _ h=>h) E E ⟨Y,⟨.inl E,E,.inl E,E,.inl E,E,Y⟩,E,E⟩
end Go.Sy.YteinjapglfkamaaGreat
namespace Go.Sy.YteinjapglfkamaaGreat
open Go.Proofs
attribute [local irreducible] Go.Sy.G Go.Sy.DR
set_option maxRecDepth 100000
set_option maxHeartbeats 4000000
theorem mLen : Meth Tryz.prog 397 "Len" 287 false 399 := .of (by kernel_rfl) Tryz.underlying397
theorem Acd : Meth Tryz.prog 397 "Less" 421 false 399 := .of (by kernel_rfl) Tryz.underlying397
theorem Acc : Meth Tryz.prog 397 "Swap" 424 false 399 := .of (by kernel_rfl) Tryz.underlying397
theorem mPush : Meth Tryz.prog 397 "Push" 423 true 399 := .of (by kernel_rfl) Tryz.underlying397
theorem mPop : Meth Tryz.prog 397 "Pop" 422 true 399 := .of (by kernel_rfl) Tryz.underlying397
def Df (q:List Item) (i j:Nat):List Item:=(q.set i (q.getD j default)).set j (q.getD i default)
theorem Ay (q:List Item) (i j:Nat):(Df q i j).length=q.length:=by simp[Df]
def upF:Nat→List Item→Nat→List Item
 | 0,q,_=>q
 | n+1,q,j=>if j=0 then q else if Bt (q.getD j default) (q.getD ((j-1) / 2) default) then upF n (Df q ((j-1) / 2) j) ((j-1) / 2) else q
theorem Aa6:∀ (n m:Nat) (q:List Item) (j:Nat),j≤n→j≤m→upF n q j=upF m q j
 | 0,m,q,j,h,_=>by
  have:j=0:=by omega
  subst this
  cases m<;>simp[upF]
 | n+1,0,q,j,_,h=>by
  have:j=0:=by omega
  subst this
  simp[upF]
 | n+1,m+1,q,j,h1,h2=>by
  rw[upF,upF]
  split
  ·rfl
  ·split
   ·exact Aa6 n m _ _ qn qn
   ·rfl
theorem Ajw (r:List Item):∀ (i:Nat),i≠0→upF i r i=if Bt (r.getD i default) (r.getD ((i-1) / 2) default) then upF ((i-1) / 2) (Df r ((i-1) / 2) i) ((i-1) / 2) else r
 | 0,h=>absurd rfl h
 | m+1,_=>by
  rw[upF,if_neg qn]
  split
  ·exact Aa6 _ _ _ _ qn qn
  ·rfl
theorem upS (q:List Item) (j:Nat) (hj:j<q.length) (hl:q.length<1000000) :
  Sy.Spec Tryz.prog 336 [.ifc 397 (.ptr 0 0),Aa j] [(0,.box [.osl 1]),(1,.row 3 Bi q)] (.tup []) [(0,.box [.osl 1]),(1,.row 3 Bi (upF j q j))]:=Ab Γ hm 100 F336 Tryz.ntmps336 rfl fun F hF=>by
 conv=>whnf
 refine Mg (α:={p:List Item × Nat // upF p.2 p.1 p.2=upF j q j∧p.1.length=q.length∧p.2<p.1.length}) (fun p=>[(0,.ifc 397 (.ptr 0 0)),(1,Aa p.1.2)]) (fun p=>[(0,.box [.osl 1]),(1,.row 3 Bi p.1.1)]) (fun p=>p.1.2) ⟨(q,j),E,E,hj⟩ []
  ⟨⟨rfl,rfl,rfl,rfl,trivial⟩,⟨.inl rfl,rfl,.inl rfl,rfl,trivial⟩,rfl,rfl⟩ ?_
 rintro ⟨⟨r,i⟩,h1,h2,h3⟩
 simp only at h1 h2 h3
 dsimp only
 have hw:IntKind.i64.wrap (((i:Int)-1).tdiv 2)=(((i-1) / 2:Nat):Int):=by
  rcases Nat.eq_zero_or_pos i with h0 | h0
  ·subst h0;rfl
  ·have:((i:Int)-1)=((i-1:Nat):Int):=by omega
   rw[this,Int.tdiv_eq_ediv_of_nonneg qn,IntKind.wrap_i64]
   omega
 refine rg ?_;conv=>whnf
 refine⟨by unfold I64;omega,?_⟩
 conv=>whnf
 refine⟨by decide,?_⟩
 rw[hw]
 conv=>whnf
 refine⟨fun h=>?_,fun h=>?_⟩
 ·have h0:i=0:=by
   have:(((i-1) / 2:Nat):Int)=i:=by simpa using h
   omega
  subst h0
  have e:upF j q j=r:=by rw[← h1];rfl
  rw[e]
  (refine rg ?_;(conv=>whnf);refine aT ?_;refine rg ?_;conv=>whnf)
  exact Ba E .nil [] [(0,.box [.osl 1]),(1,.row 3 Bi r)] (fun _ h=>h) E E ⟨Y,⟨.inl E,E,.inl E,E,Y⟩,E,E⟩
 have h0:i≠0:=by
  intro h0
  subst h0
  exact absurd h qx
 have hp:(i-1) / 2<r.length:=by omega
 have hless:=Ij r i ((i-1) / 2) h3 hp
 refine rg ?_;conv=>whnf
 refine Ah (Di [1] (Bf Γ.toTy Acd F421 E E E E E) hless (.cons (.row E E) (.cons (.refl _) (.cons (.refl _) .nil))) E E) E E ?_
 refine rg ?_;conv=>whnf
 have hu:upF i r i=if Bt r[i] r[(i-1) / 2] then upF ((i-1) / 2) (Df r ((i-1) / 2) i) ((i-1) / 2) else r:=by
  rw[Ajw r i h0,A7 h3,A7 hp]
 refine⟨fun h=>?_,fun h=>?_⟩
 ·have hlt:Bt r[i] r[(i-1) / 2]=false:=by simpa using h
  have e:upF j q j=r:=by rw[← h1,hu,hlt];rfl
  rw[e]
  refine rg ?_;conv=>whnf
  exact Ba E .nil [] [(0,.box [.osl 1]),(1,.row 3 Bi r)] (fun _ h=>h) E E ⟨Y,⟨.inl E,E,.inl E,E,Y⟩,E,E⟩
 have hlt:Bt r[i] r[(i-1) / 2]=true:=by simpa using h
 rw[hlt,if_pos rfl]at hu
 have hsw:=Ii r ((i-1) / 2) i hp h3
 have e:(r.set ((i-1) / 2) r[i]).set i r[(i-1) / 2]=Df r ((i-1) / 2) i:=by
  rw[Df,A7 h3,A7 hp]
 rw[e]at hsw
 refine rg ?_;conv=>whnf
 refine Ah (Ca [(0,1)] (Bf Γ.toTy Acc F424 E E E E E) hsw E ⟨E,Y⟩ E ⟨.inl E,Y⟩) E E ?_
 refine rg ?_;conv=>whnf
 exact Or (α:={p:List Item × Nat // upF p.2 p.1 p.2=upF j q j∧p.1.length=q.length∧p.2<p.1.length}) (L:=fun p=>[(0,.ifc 397 (.ptr 0 0)),(1,Aa p.1.2)]) (O:=fun p=>[(0,.box [.osl 1]),(1,.row 3 Bi p.1.1)]) (μ:=fun p=>p.1.2) (x:=⟨(r,i),h1,h2,h3⟩)
  ⟨(Df r ((i-1) / 2) i,(i-1) / 2),by rw[← h1,hu],by rw[Ay];exact h2,by rw[Ay];exact hp⟩ [] (by simp only;omega)
  ⟨⟨rfl,rfl,rfl,rfl,trivial⟩,⟨.inl rfl,rfl,.inl rfl,rfl,trivial⟩,rfl,rfl⟩
theorem Vj:∀ (n:Nat) (q:List Item) (j:Nat),(upF n q j).length=q.length
 | 0,q,j=>rfl
 | n+1,q,j=>by
  rw[upF]
  split
  ·rfl
  ·split
   ·rw[Vj n,Ay]
   ·rfl
def Od (q:List Item) (x:Item):List Item:=upF q.length (q++[x]) q.length
theorem Yx (q:List Item) (x:Item) (hl:q.length<999999) :
  Sy.Spec Tryz.prog 286 [.ifc 397 (.ptr 0 0),.ifc 402 (Bi x)] [(0,.box [.osl 1]),(1,.row 3 Bi q)] (.tup []) [(0,.box [.osl 2]),(1,.non),(2,.row 3 Bi (Od q x))]:=Ab Γ hm 100 F286 Tryz.ntmps286 rfl fun F hF=>by
 have hpush:=Aep q x qn
 have hlen:=Tj (q++[x])
 have hup:=upS (q++[x]) q.length qy (by simp;omega)
 have hln:(((q++[x]).length:Nat):Int)-1=(q.length:Int):=by simp
 conv=>whnf
 refine Ah (Ca (rd:=[]) [(2,6)] (On mPush F423 E E) hpush E ⟨E,E,Y⟩ E ⟨.inl E,.inl E,.inr E,Y⟩) E E ?_
 refine rg ?_;conv=>whnf
 refine Ah (Di [6] (Bf Γ.toTy mLen F287 E E E E E) hlen (.cons (.row E E) .nil) E E) E E ?_
 refine rg ?_;conv=>whnf
 refine⟨by unfold I64;simp;omega,?_⟩
 rw[hln]
 conv=>whnf
 refine Ah (Aj [(1,6)] E F336 hup E ⟨E,E,Y⟩ E ⟨.inl E,.inl E,Y⟩) E E ?_
 refine rg ?_;conv=>whnf
 exact Ba E .nil [(2,6)] [(0,.box [.osl 2]),(1,.non),(2,.row 3 Bi (Od q x))] (fun _ h=>h) E E ⟨Y,⟨.inl E,E,.inl E,E,.inl E,E,Y⟩,E,E⟩
def Db (q:List Item) (i n:Nat):Nat:=if 2 * i+2<n∧Bt (q.getD (2 * i+2) default) (q.getD (2 * i+1) default)=true then 2 * i+2 else 2 * i+1
theorem Kc (q:List Item) (i n:Nat) (h:2 * i+1<n):Db q i n<n∧i<Db q i n:=by
 unfold Db
 split<;>omega
def Dc:Nat→List Item→Nat→Nat→List Item × Nat
 | 0,q,i,_=>(q,i)
 | f+1,q,i,n=>if 2 * i+1<n then (if Bt (q.getD (Db q i n) default) (q.getD i default) then Dc f (Df q i (Db q i n)) (Db q i n) n else (q,i)) else (q,i)
theorem Qa:∀ (f g:Nat) (q:List Item) (i n:Nat),n≤f+i→n≤g+i→Dc f q i n=Dc g q i n
 | 0,g,q,i,n,h1,h2=>by
  cases g with
  | zero=>rfl
  | succ g=>rw[Dc,Dc,if_neg qn]
 | f+1,0,q,i,n,h1,h2=>by rw[Dc,Dc,if_neg qn]
 | f+1,g+1,q,i,n,h1,h2=>by
  rw[Dc,Dc]
  split
  ·rename_i h
   have:=Kc q i n h
   split
   ·exact Qa f g _ _ n qn qn
   ·rfl
  ·rfl
theorem Aft (r:List Item) (i n:Nat):Dc (n-i) r i n=if 2 * i+1<n then (if Bt (r.getD (Db r i n) default) (r.getD i default) then Dc (n-Db r i n) (Df r i (Db r i n)) (Db r i n) n else (r,i)) else (r,i):=by
 rw[Qa (n-i) (n-i+1) r i n qn qn,Dc]
 split
 ·rename_i h
  have:=Kc r i n h
  split
  ·exact Qa _ _ _ _ _ qn qn
  ·rfl
 ·rfl
theorem Su:∀ (f:Nat) (q:List Item) (i n:Nat),(Dc f q i n).1.length=q.length
 | 0,_,_,_=>rfl
 | f+1,q,i,n=>by
  rw[Dc]
  split
  ·split
   ·rw[Su f,Ay]
   ·rfl
  ·rfl
theorem downS (q:List Item) (i0 n:Nat) (hn:n≤q.length) (hi:i0<q.length) (hl:q.length<1000000) :
  Sy.Spec Tryz.prog 337 [.ifc 397 (.ptr 0 0),Aa i0,Aa n] [(0,.box [.osl 1]),(1,.row 3 Bi q)] (Ad (decide (((Dc (n-i0) q i0 n).2:Int)>i0))) [(0,.box [.osl 1]),(1,.row 3 Bi (Dc (n-i0) q i0 n).1)]:=Ab Γ hm 100 F337 Tryz.ntmps337 rfl fun F hF=>by
 generalize hD:Dc (n-i0) q i0 n=D
 conv=>whnf
 refine Mg (α:={p:List Item × Nat // Dc (n-p.2) p.1 p.2 n=D∧p.1.length=q.length∧p.2<p.1.length}) (fun p=>[(0,.ifc 397 (.ptr 0 0)),(1,Aa i0),(2,Aa n),(7,Aa p.1.2)]) (fun p=>[(0,.box [.osl 1]),(1,.row 3 Bi p.1.1)]) (fun p=>n-p.1.2) ⟨(q,i0),hD,E,hi⟩ []
  ⟨⟨rfl,rfl,rfl,rfl,rfl,rfl,rfl,rfl,trivial⟩,⟨.inl rfl,rfl,.inl rfl,rfl,trivial⟩,rfl,rfl⟩ ?_
 rintro ⟨⟨r,i⟩,h1,h2,h3⟩
 simp only at h1 h2 h3
 dsimp only
 have h10:=h1
 rw[Aft]at h1
 have hj1:(2:Int) * i+1=((2 * i+1:Nat):Int):=by omega
 have hj2:((2 * i+1:Nat):Int)+1=((2 * i+2:Nat):Int):=by omega
 refine rg ?_;conv=>whnf
 refine⟨by unfold I64;omega,?_⟩
 conv=>whnf
 refine⟨by unfold I64;omega,?_⟩
 rw[hj1]
 conv=>whnf
 refine⟨fun h=>?_,fun h=>?_⟩
 ·have hge:¬ 2 * i+1<n:=by have:=of_decide_eq_true h;omega
  rw[if_neg hge]at h1
  rw[← h1]
  (refine rg ?_;(conv=>whnf);refine aT ?_;refine rg ?_;conv=>whnf)
  exact done E (.cons .tmp .nil) [] [(0,.box [.osl 1]),(1,.row 3 Bi r)] (fun _ h=>h) E E ⟨Y,⟨.inl E,E,.inl E,E,Y⟩,E,E⟩
 have hlt:2 * i+1<n:=by have:=of_decide_eq_false h;omega
 rw[if_pos hlt]at h1
 (refine rg ?_;(conv=>whnf);refine aF ?_;refine rg ?_;conv=>whnf)
 refine⟨by unfold I64;omega,?_⟩
 rw[hj2]
 conv=>whnf
 refine⟨fun h=>?_,fun h=>?_⟩
 ·have h2n:2 * i+2<n:=by have:=of_decide_eq_true h;omega
  have hA:2 * i+2<r.length:=by omega
  have hB:2 * i+1<r.length:=by omega
  have hlc:=Ij r (2 * i+2) (2 * i+1) hA hB
  refine rg ?_;conv=>whnf
  refine Ah (Di [1] (Bf Γ.toTy Acd F421 E E E E E) hlc (.cons (.row E E) (.cons (.refl _) (.cons (.refl _) .nil))) E E) E E ?_
  refine rg ?_;conv=>whnf
  refine⟨fun h=>?_,fun h=>?_⟩
  ·have hc:Db r i n=2 * i+2:=by rw[Db,if_pos ⟨h2n,by rw[A7 hA,A7 hB];exact h⟩]
   have hJ:=hA
   refine rg ?_;conv=>whnf
   rw[hc,A7 hJ,A7 h3]at h1
   have hls:=Ij r (2 * i+2) i hJ h3
   refine Ah (Di [1] (Bf Γ.toTy Acd F421 E E E E E) hls (.cons (.row E E) (.cons (.refl _) (.cons (.refl _) .nil))) E E) E E ?_
   refine rg ?_;conv=>whnf
   refine⟨fun h=>?_,fun h=>?_⟩
   ·have hf:Bt r[2 * i+2] r[i]=false:=by simpa using h
    rw[hf]at h1
    have e:D=(r,i):=h1.symm
    rw[e]
    refine rg ?_;conv=>whnf
    exact done E (.cons .tmp .nil) [] [(0,.box [.osl 1]),(1,.row 3 Bi r)] (fun _ h=>h) E E ⟨Y,⟨.inl E,E,.inl E,E,Y⟩,E,E⟩
   have hf:Bt r[2 * i+2] r[i]=true:=by simpa using h
   rw[hf,if_pos rfl]at h1
   have hsw:=Ii r i (2 * i+2) h3 hJ
   have e:(r.set i r[2 * i+2]).set (2 * i+2) r[i]=Df r i (2 * i+2):=by
    rw[Df,A7 h3,A7 hJ]
   rw[e]at hsw
   refine rg ?_;conv=>whnf
   refine Ah (Ca [(0,1)] (Bf Γ.toTy Acc F424 E E E E E) hsw E ⟨E,Y⟩ E ⟨.inl E,Y⟩) E E ?_
   refine rg ?_;conv=>whnf
   exact Or (α:={p:List Item × Nat // Dc (n-p.2) p.1 p.2 n=D∧p.1.length=q.length∧p.2<p.1.length}) (L:=fun p=>[(0,.ifc 397 (.ptr 0 0)),(1,Aa i0),(2,Aa n),(7,Aa p.1.2)]) (O:=fun p=>[(0,.box [.osl 1]),(1,.row 3 Bi p.1.1)]) (μ:=fun p=>n-p.1.2) (x:=⟨(r,i),h10,h2,h3⟩)
    ⟨(Df r i (2 * i+2),2 * i+2),h1,by rw[Ay];exact h2,by rw[Ay];exact hJ⟩ [] (by simp only;omega)
    ⟨⟨rfl,rfl,rfl,rfl,rfl,rfl,rfl,rfl,trivial⟩,⟨.inl rfl,rfl,.inl rfl,rfl,trivial⟩,rfl,rfl⟩
  ·have hc:Db r i n=2 * i+1:=by rw[Db,if_neg (fun hh=>by rw[A7 hA,A7 hB,h]at hh;exact absurd hh.2 qy)]
   have hJ:=hB
   refine rg ?_;conv=>whnf
   rw[hc,A7 hJ,A7 h3]at h1
   have hls:=Ij r (2 * i+1) i hJ h3
   refine Ah (Di [1] (Bf Γ.toTy Acd F421 E E E E E) hls (.cons (.row E E) (.cons (.refl _) (.cons (.refl _) .nil))) E E) E E ?_
   refine rg ?_;conv=>whnf
   refine⟨fun h=>?_,fun h=>?_⟩
   ·have hf:Bt r[2 * i+1] r[i]=false:=by simpa using h
    rw[hf]at h1
    have e:D=(r,i):=h1.symm
    rw[e]
    refine rg ?_;conv=>whnf
    exact done E (.cons .tmp .nil) [] [(0,.box [.osl 1]),(1,.row 3 Bi r)] (fun _ h=>h) E E ⟨Y,⟨.inl E,E,.inl E,E,Y⟩,E,E⟩
   have hf:Bt r[2 * i+1] r[i]=true:=by simpa using h
   rw[hf,if_pos rfl]at h1
   have hsw:=Ii r i (2 * i+1) h3 hJ
   have e:(r.set i r[2 * i+1]).set (2 * i+1) r[i]=Df r i (2 * i+1):=by
    rw[Df,A7 h3,A7 hJ]
   rw[e]at hsw
   refine rg ?_;conv=>whnf
   refine Ah (Ca [(0,1)] (Bf Γ.toTy Acc F424 E E E E E) hsw E ⟨E,Y⟩ E ⟨.inl E,Y⟩) E E ?_
   refine rg ?_;conv=>whnf
   exact Or (α:={p:List Item × Nat // Dc (n-p.2) p.1 p.2 n=D∧p.1.length=q.length∧p.2<p.1.length}) (L:=fun p=>[(0,.ifc 397 (.ptr 0 0)),(1,Aa i0),(2,Aa n),(7,Aa p.1.2)]) (O:=fun p=>[(0,.box [.osl 1]),(1,.row 3 Bi p.1.1)]) (μ:=fun p=>n-p.1.2) (x:=⟨(r,i),h10,h2,h3⟩)
    ⟨(Df r i (2 * i+1),2 * i+1),h1,by rw[Ay];exact h2,by rw[Ay];exact hJ⟩ [] (by simp only;omega)
    ⟨⟨rfl,rfl,rfl,rfl,rfl,rfl,rfl,rfl,trivial⟩,⟨.inl rfl,rfl,.inl rfl,rfl,trivial⟩,rfl,rfl⟩
 ·have h2n:¬ 2 * i+2<n:=by have:=of_decide_eq_false h;omega
  have hJ:2 * i+1<r.length:=by omega
  have hc:Db r i n=2 * i+1:=by rw[Db,if_neg (fun hh=>h2n hh.1)]
  (refine rg ?_;(conv=>whnf);refine aF ?_;refine rg ?_;conv=>whnf)
  rw[hc,A7 hJ,A7 h3]at h1
  have hls:=Ij r (2 * i+1) i hJ h3
  refine Ah (Di [1] (Bf Γ.toTy Acd F421 E E E E E) hls (.cons (.row E E) (.cons (.refl _) (.cons (.refl _) .nil))) E E) E E ?_
  refine rg ?_;conv=>whnf
  refine⟨fun h=>?_,fun h=>?_⟩
  ·have hf:Bt r[2 * i+1] r[i]=false:=by simpa using h
   rw[hf]at h1
   have e:D=(r,i):=h1.symm
   rw[e]
   refine rg ?_;conv=>whnf
   exact done E (.cons .tmp .nil) [] [(0,.box [.osl 1]),(1,.row 3 Bi r)] (fun _ h=>h) E E ⟨Y,⟨.inl E,E,.inl E,E,Y⟩,E,E⟩
  have hf:Bt r[2 * i+1] r[i]=true:=by simpa using h
  rw[hf,if_pos rfl]at h1
  have hsw:=Ii r i (2 * i+1) h3 hJ
  have e:(r.set i r[2 * i+1]).set (2 * i+1) r[i]=Df r i (2 * i+1):=by
   rw[Df,A7 h3,A7 hJ]
  rw[e]at hsw
  refine rg ?_;conv=>whnf
  refine Ah (Ca [(0,1)] (Bf Γ.toTy Acc F424 E E E E E) hsw E ⟨E,Y⟩ E ⟨.inl E,Y⟩) E E ?_
  refine rg ?_;conv=>whnf
  exact Or (α:={p:List Item × Nat // Dc (n-p.2) p.1 p.2 n=D∧p.1.length=q.length∧p.2<p.1.length}) (L:=fun p=>[(0,.ifc 397 (.ptr 0 0)),(1,Aa i0),(2,Aa n),(7,Aa p.1.2)]) (O:=fun p=>[(0,.box [.osl 1]),(1,.row 3 Bi p.1.1)]) (μ:=fun p=>n-p.1.2) (x:=⟨(r,i),h10,h2,h3⟩)
   ⟨(Df r i (2 * i+1),2 * i+1),h1,by rw[Ay];exact h2,by rw[Ay];exact hJ⟩ [] (by simp only;omega)
   ⟨⟨rfl,rfl,rfl,rfl,rfl,rfl,rfl,rfl,trivial⟩,⟨.inl rfl,rfl,.inl rfl,rfl,trivial⟩,rfl,rfl⟩
def Co (q:List Item):List Item:=(Dc (q.length-1-0) (Df q 0 (q.length-1)) 0 (q.length-1)).1
theorem Dh (q:List Item):(Co q).length=q.length:=by rw[Co,Su,Ay]
theorem De {q:List Item} (h:q≠[]):Co q≠[]:=fun e=>h (List.eq_nil_of_length_eq_zero (by rw[← Dh,e];rfl))
theorem Alp (q:List Item) (hq:q≠[]) (hl:q.length<1000000) :
  Sy.Spec Tryz.prog 288 [.ifc 397 (.ptr 0 0)] [(0,.box [.osl 1]),(1,.row 3 Bi q)] (.ifc 402 (Bi ((Co q).getLast (De hq)))) [(0,.box [.osl 2]),(1,.non),(2,.row 3 Bi (Co q).dropLast)]:=Ab Γ hm 100 F288 Tryz.ntmps288 rfl fun F hF=>by
 have h0:0<q.length:=List.length_pos_iff.2 hq
 have hlen:=Tj q
 have hsw:=Ii q 0 (q.length-1) h0 qn
 have e:(q.set 0 q[q.length-1]).set (q.length-1) q[0]=Df q 0 (q.length-1):=by
  rw[Df,A7 (show q.length-1<q.length by omega),A7 h0]
 rw[e]at hsw
 have hdn:=downS (Df q 0 (q.length-1)) 0 (q.length-1) (by rw[Ay];omega) (by rw[Ay];exact h0) (by rw[Ay];exact hl)
 have hpop:=Ah7 (Co q) (De hq) (by rw[Dh];exact hl)
 have hln:(q.length:Int)-1=((q.length-1:Nat):Int):=by omega
 conv=>whnf
 refine Ah (Di [1] (Bf Γ.toTy mLen F287 E E E E E) hlen (.cons (.row E E) .nil) E E) E E ?_
 refine rg ?_;conv=>whnf
 refine⟨by unfold I64;omega,?_⟩
 rw[hln]
 conv=>whnf
 refine Ah (Ca [(0,1)] (Bf Γ.toTy Acc F424 E E E E E) hsw E ⟨E,Y⟩ E ⟨.inl E,Y⟩) E E ?_
 refine rg ?_;conv=>whnf
 refine Ah (Aj [] E F337 hdn E ⟨E,E,Y⟩ E ⟨.inl E,.inl E,Y⟩) E E ?_
 refine rg ?_;conv=>whnf
 refine Ah (Ca (rd:=[]) [(2,14)] (On mPop F422 E E) hpop E ⟨E,E,Y⟩ E ⟨.inl E,.inl E,.inr E,Y⟩) E E ?_
 refine rg ?_;conv=>whnf
 exact done E (.cons .tmp .nil) [(2,14)] [(0,.box [.osl 2]),(1,.non),(2,.row 3 Bi (Co q).dropLast)] (fun _ h=>h) E E ⟨Y,⟨.inl E,E,.inl E,E,.inl E,E,Y⟩,E,E⟩
end Go.Sy.YteinjapglfkamaaGreat
namespace Go.Sy.YteinjapglfkamaaGreat
open Go.Proofs
attribute [local irreducible] Go.Sy.G Go.Sy.DR
set_option maxRecDepth 20000
set_option maxHeartbeats 4000000
theorem great1 {n:Net} (h:n.ports.any (fun p=>decide (100<p.tagged.length))=true):Hd n=true:=by simp only[Hd,h,Bool.or_true,Bool.true_or]
theorem great2 {n:Net} (h:n.domains.any (fun p=>decide (100<p.peers.length))=true):Hd n=true:=by simp only[Hd,h,Bool.or_true,Bool.true_or]
theorem great3 {n:Net} (h:n.floods.any (fun p=>decide (100<p.addrs.length))=true):Hd n=true:=by simp only[Hd,h,Bool.or_true,Bool.true_or]
theorem great4 {n:Net} (h:n.vrfs.any (fun v=>decide (100<v.imports.length) || decide (100<v.exports.length))=true):Hd n=true:=by simp only[Hd,h,Bool.or_true]
theorem greatS (n:Net):Sy.Spec Tryz.prog 7 [Ap n] [] (Ad (Hd n)) []:=Ab Γ hm 100 F7 Tryz.ntmps7 rfl fun F hF=>by
 conv=>whnf
 (repeat' (first | (refine⟨fun h=>?_,fun h=>?_⟩<;>(repeat (first | simp only[decide_eq_true_eq]at h | simp only[decide_eq_false_iff_not]at h))<;>((refine rg ?_);(conv=>whnf);repeat((refine aT ?_);(refine rg ?_);(conv=>whnf)))) | (refine Ac rfl (.cons .tmp .nil) ?_ rfl)))
 all_goals first
  | (refine congrArg Ad ?_;clear hF;grind [Hd])
  | skip
 have l1:n.ports.length≤200:=by omega
 have l2:n.domains.length≤200:=by omega
 have l3:n.floods.length≤200:=by omega
 have l4:n.vrfs.length≤200:=by omega
 refine Be 1 8 (Ap n) E E E ?_
 refine A2 n.ports.length (fun j=>C7 (fun _ p=>!(decide (100<p.tagged.length))) n.ports j) (fun j=>[(1,.ref 8 (Ap n) 0),(3,Aa j)]) (fun _=>[]) [] (Ax _ _) ⟨⟨E,E,E,E,Y⟩,Y,E,E⟩ ?_
 intro j hj hI
 refine rg ?_;conv=>whnf
 refine⟨fun h=>?_,fun h=>?_⟩
 ·have hjl:j<n.ports.length:=by simpa using h
  refine rg ?_;conv=>whnf
  (repeat' (first | (refine⟨fun h=>?_,fun h=>?_⟩<;>(repeat (first | simp only[decide_eq_true_eq]at h | simp only[decide_eq_false_iff_not]at h))<;>((refine rg ?_);(conv=>whnf))) | (refine Ac rfl (.cons .tmp .nil) ?_ rfl) | (refine⟨qq,?_⟩;((conv=>whnf))) | (refine⟨by (omega),by (omega),?_⟩;((conv=>whnf))) | (refine⟨by (unfold I64;omega),?_⟩;((conv=>whnf))) | refine A0 [] hI hjl ?_ ⟨⟨rfl,rfl,rfl,rfl,trivial⟩,trivial,rfl,rfl⟩))
  all_goals (simp only[Int.toNat_natCast]at *)
  ·refine congrArg Ad ?_
   exact great1 (Mf hjl (by simp;omega))
  ·exact As hI hjl (by simp;omega)
 have a1:n.ports.any (fun p=>decide (100<p.tagged.length))=false:=Kf hI (by simpa using h)
 clear hI hj h
 refine rg ?_;conv=>whnf
 refine A2 n.domains.length (fun j=>C7 (fun _ p=>!(decide (100<p.peers.length))) n.domains j) (fun j=>[(1,.ref 8 (Ap n) 0),(4,Aa j)]) (fun _=>[]) [] (Ax _ _) ⟨⟨E,E,E,E,Y⟩,Y,E,E⟩ ?_
 intro j hj hI
 refine rg ?_;conv=>whnf
 refine⟨fun h=>?_,fun h=>?_⟩
 ·have hjl:j<n.domains.length:=by simpa using h
  refine rg ?_;conv=>whnf
  (repeat' (first | (refine⟨fun h=>?_,fun h=>?_⟩<;>(repeat (first | simp only[decide_eq_true_eq]at h | simp only[decide_eq_false_iff_not]at h))<;>((refine rg ?_);(conv=>whnf))) | (refine Ac rfl (.cons .tmp .nil) ?_ rfl) | (refine⟨qq,?_⟩;((conv=>whnf))) | (refine⟨by (omega),by (omega),?_⟩;((conv=>whnf))) | (refine⟨by (unfold I64;omega),?_⟩;((conv=>whnf))) | refine A0 [] hI hjl ?_ ⟨⟨rfl,rfl,rfl,rfl,trivial⟩,trivial,rfl,rfl⟩))
  all_goals (simp only[Int.toNat_natCast]at *)
  ·refine congrArg Ad ?_
   exact great2 (Mf hjl (by simp;omega))
  ·exact As hI hjl (by simp;omega)
 have a2:n.domains.any (fun p=>decide (100<p.peers.length))=false:=Kf hI (by simpa using h)
 clear hI hj h
 refine rg ?_;conv=>whnf
 refine A2 n.floods.length (fun j=>C7 (fun _ p=>!(decide (100<p.addrs.length))) n.floods j) (fun j=>[(1,.ref 8 (Ap n) 0),(5,Aa j)]) (fun _=>[]) [] (Ax _ _) ⟨⟨E,E,E,E,Y⟩,Y,E,E⟩ ?_
 intro j hj hI
 refine rg ?_;conv=>whnf
 refine⟨fun h=>?_,fun h=>?_⟩
 ·have hjl:j<n.floods.length:=by simpa using h
  refine rg ?_;conv=>whnf
  (repeat' (first | (refine⟨fun h=>?_,fun h=>?_⟩<;>(repeat (first | simp only[decide_eq_true_eq]at h | simp only[decide_eq_false_iff_not]at h))<;>((refine rg ?_);(conv=>whnf))) | (refine Ac rfl (.cons .tmp .nil) ?_ rfl) | (refine⟨qq,?_⟩;((conv=>whnf))) | (refine⟨by (omega),by (omega),?_⟩;((conv=>whnf))) | (refine⟨by (unfold I64;omega),?_⟩;((conv=>whnf))) | refine A0 [] hI hjl ?_ ⟨⟨rfl,rfl,rfl,rfl,trivial⟩,trivial,rfl,rfl⟩))
  all_goals (simp only[Int.toNat_natCast]at *)
  ·refine congrArg Ad ?_
   exact great3 (Mf hjl (by simp;omega))
  ·exact As hI hjl (by simp;omega)
 have a3:n.floods.any (fun p=>decide (100<p.addrs.length))=false:=Kf hI (by simpa using h)
 clear hI hj h
 refine rg ?_;conv=>whnf
 refine A2 n.vrfs.length (fun j=>C7 (fun _ v=>!(decide (100<v.imports.length) || decide (100<v.exports.length))) n.vrfs j) (fun j=>[(1,.ref 8 (Ap n) 0),(6,Aa j)]) (fun _=>[]) [] (Ax _ _) ⟨⟨E,E,E,E,Y⟩,Y,E,E⟩ ?_
 intro j hj hI
 refine rg ?_;conv=>whnf
 refine⟨fun h=>?_,fun h=>?_⟩
 ·have hjl:j<n.vrfs.length:=by simpa using h
  refine rg ?_;conv=>whnf
  (repeat' (first | (refine⟨fun h=>?_,fun h=>?_⟩<;>(repeat (first | simp only[decide_eq_true_eq]at h | simp only[decide_eq_false_iff_not]at h))<;>((refine rg ?_);(conv=>whnf);repeat((refine aT ?_);(refine rg ?_);(conv=>whnf)))) | (refine Ac rfl (.cons .tmp .nil) ?_ rfl) | (refine⟨qq,?_⟩;((conv=>whnf))) | (refine⟨by (omega),by (omega),?_⟩;((conv=>whnf))) | (refine⟨by (unfold I64;omega),?_⟩;((conv=>whnf))) | refine A0 [] hI hjl ?_ ⟨⟨rfl,rfl,rfl,rfl,trivial⟩,trivial,rfl,rfl⟩))
  all_goals (simp only[Int.toNat_natCast]at *)
  all_goals first
   | exact As hI hjl (by simp;omega)
   | (refine congrArg Ad ?_;exact great4 (Mf hjl (by simp;omega)))
 have a4:n.vrfs.any (fun v=>decide (100<v.imports.length) || decide (100<v.exports.length))=false:=Kf hI (by simpa using h)
 clear hI hj h
 refine rg ?_;conv=>whnf
 refine Ac E (.cons .tmp .nil) (congrArg Ad ?_) E
 rw[Hd,a1,a2,a3,a4]
 simp
 omega
def C8:Vec→List Vec→Vec
 | v,[]=>v
 | v,x::l=>C8 (if Yo x v then x else v) l
def zeroV:Vec:=⟨0,0,0,0,0⟩
def Ks:List Vec→Vec × Bool
 | []=>(zeroV,false)
 | v::l=>(C8 v (v::l),true)
theorem We:∀ (v:Vec) (l:List Vec),C8 v l=v∨C8 v l∈l
 | v,[]=>.inl rfl
 | v,x::l=>by
  rw[C8]
  rcases We (if Yo x v then x else v) l with h | h
  ·rw[h]
   split
   ·exact .inr qy
   ·exact .inl E
  ·exact .inr (by simp[h])
theorem Acl (v:Vec) (l:List Vec) (j:Nat) (h:j<l.length):C8 v (l.take (j+1))=(if Yo l[j] (C8 v (l.take j)) then l[j] else C8 v (l.take j)):=by
 have key:∀ (a b:List Vec) (v:Vec),C8 v (a++b)=C8 (C8 v a) b:=by
  intro a
  induction a with
  | nil=>intro b v;rfl
  | cons x a ih=>intro b v;rw[List.cons_append,C8,C8,ih]
 rw[List.take_succ_eq_append_getElem h,key]
 rfl
theorem leastS (l:List Vec) (hl:An l):Sy.Spec Tryz.prog 289 [.sl 5 Lh l] [] (.tup [Lh (Ks l).1,Ad (Ks l).2]) []:=Ab Γ hm 100 F289 Tryz.ntmps289 rfl fun F hF=>by
 unfold An at hl
 have hR:∀ h:0<l.length,Ks l=(C8 l[0] l,true):=fun h=>by
  cases l with
  | nil=>simp at h
  | cons v t=>rfl
 conv=>whnf
 refine⟨fun h=>?_,fun h=>?_⟩
 ·have:l=[]:=List.eq_nil_of_length_eq_zero (by have:(l.length:Int)=0:=(by simpa using h);omega)
  subst this
  refine rg ?_;conv=>whnf
  exact done E (.cons (.cell E E E E) (.cons .tmp .nil)) [] [] (fun _ h=>h) E E ⟨Y,Y,E,E⟩
 have h0:0<l.length:=by
  have:¬ (l.length:Int)=0:=by simpa using h
  omega
 rw[hR h0]
 refine rg ?_;conv=>whnf
 refine⟨E,by decide,h0,?_⟩
 conv=>whnf
 have e0:l[(0:Int).toNat]'(h0)=l[0]:=rfl
 generalize hv:l[0]=v at *
 refine A3 l.length (fun j=>[(0,.sl 5 Lh l),(2,.ptr 2 0),(4,.ptr 4 0),(14,.sl 5 Lh l),(15,Aa l.length),(16,Aa j)]) (fun j=>[(2,.box [Aa 0,Aa 0,Aa 0,Aa 0,Aa 0]),(4,.box [Aa (C8 v (l.take j)).root,Aa (C8 v (l.take j)).cost,Aa (C8 v (l.take j)).bridge,Aa (C8 v (l.take j)).port,Aa (C8 v (l.take j)).own])]) []
  ⟨⟨rfl,rfl,rfl,rfl,rfl,rfl,rfl,rfl,rfl,rfl,rfl,rfl,trivial⟩,⟨.inl rfl,rfl,.inl (by subst hv;rfl),rfl,trivial⟩,rfl,rfl⟩ ?_
 intro j hj
 refine rg ?_;conv=>whnf
 refine⟨fun h=>?_,fun h=>?_⟩
 ·have hlt:j<l.length:=by simpa using h
  have hdrop:=Acl v l j hlt
  generalize hx:l[j]=x at hdrop
  have hx':l[(j:Int).toNat]'qn=x:=hx
  generalize hmn:C8 v (l.take j)=m at hdrop
  refine rg ?_;conv=>whnf
  refine⟨E,by omega,by omega,?_⟩
  rw[hx']
  conv=>whnf
  refine Ag (lessS x m) F338 E E E E E ?_
  refine rg ?_;conv=>whnf
  refine⟨fun h2=>?_,fun h2=>?_⟩
  ·rw[h2,if_pos rfl]at hdrop
   refine rg ?_;conv=>whnf
   refine⟨by unfold I64;omega,?_⟩
   conv=>whnf
   exact Av [] hlt ⟨⟨E,E,E,E,E,E,E,E,E,E,E,E,Y⟩,⟨.inl E,E,.inl (by rw[hdrop];rfl),E,Y⟩,E,E⟩
  ·rw[h2]at hdrop
   refine rg ?_;conv=>whnf
   refine⟨by unfold I64;omega,?_⟩
   conv=>whnf
   exact Av [] hlt ⟨⟨E,E,E,E,E,E,E,E,E,E,E,E,Y⟩,⟨.inl E,E,.inl (by rw[hdrop];rfl),E,Y⟩,E,E⟩
 ·have hjl:¬ j<l.length:=by simpa using h
  rw[List.take_of_length_le qn]
  refine rg ?_;conv=>whnf
  exact done E (.cons (.cell E E E E) (.cons .tmp .nil)) [] [] (fun _ h=>h) E E ⟨Y,Y,E,E⟩
theorem leastR_mem {l:List Vec} (h:(Ks l).2=true):(Ks l).1∈l:=by
 cases l with
 | nil=>cases h
 | cons v t =>
  rcases We v (v::t) with h | h
  ·show C8 v (v::t)∈v::t
   rw[h];simp
  ·exact h
theorem T9 (n:Net):∀ x∈Dg n,0≤x∧x<n.devices.length:=fun x hx=>by
 rw[Abw,Jv]at hx
 obtain ⟨i,hi,rfl⟩:=List.mem_map.1 hx
 have hi:=List.mem_range.1 hi
 have h1:=List.countP_le_length (p:=fun k=>Cg n (k:Nat) i) (l:=List.range n.devices.length)
 rw[List.length_range]at h1
 have h2:(List.range n.devices.length).countP (fun k=>Cg n (k:Nat) i)≠n.devices.length:=fun e=>by
  have:=List.countP_eq_length.1 (e.trans List.length_range.symm) i (List.mem_range.2 hi)
  rw[K3]at this
  cases this
 omega
theorem Je (n:Net):(Dg n).length=n.devices.length:=by rw[Abw,Jv];simp
end Go.Sy.YteinjapglfkamaaGreat
namespace Go.Sy.YteinjapglfkamaaGreat
open Go.Proofs
attribute [local irreducible] Go.Sy.G Go.Sy.DR
set_option maxRecDepth 100000
set_option maxHeartbeats 4000000
def M8 (n:Net) (up:List Bool) (ranks:List Int) (x y:SV):List SV:=[.sl 5 Bj n.devices,.sl 7 A6 n.ports,.sl 3 Ce n.links,.sl 6 Ar n.domains,.sl 4 Bh n.statics,.sl 4 Bv n.floods,.sl 5 Cq n.vrfs,.sl 5 Cd n.irbs,.sl 1 Ad up,.sl 1 Aa ranks,x,y]
def C0 (n:Net) (up:List Bool) (i:Nat):Int :=
 let p:=n.ports.getD i default
 if p.link<0 || !(up.getD p.link.toNat false) then -1 else (nth n.links p.link).a+(nth n.links p.link).b-i
theorem farS (n:Net) (up:List Bool) (ranks:List Int) (x y:SV) (_hx:(x.boxed && x.data && y.boxed && y.data && Nat.beq (cellsOf x).length 1 && Nat.beq (cellsOf y).length 1)=true) (i:Nat) (hr:Af n=true) (hu:up.length=n.links.length) (hi:i<n.ports.length) :
  Sy.Spec Tryz.prog 222 [.ref 12 (.agg (M8 n up ranks x y)) 0,Aa i] [] (Aa (C0 n up i)) []:=Ab Γ hm 100 F222 Tryz.ntmps222 rfl fun F hF=>by
 have hpl:=Ml hr hi
 have hf:=Dt hr
 have e1:n.ports[(i:Int).toNat]'qn=n.ports[i]:=rfl
 have hfar:C0 n up i=if n.ports[i].link<0 || !(up.getD n.ports[i].link.toNat false) then -1 else (nth n.links n.ports[i].link).a+(nth n.links n.ports[i].link).b-i:=by
  rw[C0,A7 hi]
 generalize hp:n.ports[i]=p at *
 have hle:=fun h=>J0 hr (i:=p.link.toNat) h
 conv=>whnf
 refine⟨E,by omega,by omega,?_⟩
 rw[e1]
 conv=>whnf
 (repeat' (first | (refine⟨fun h=>?_,fun h=>?_⟩<;>(repeat (first | simp only[decide_eq_true_eq]at h | simp only[decide_eq_false_iff_not]at h | simp only[Bool.not_eq_true']at h | simp only[Bool.not_eq_false']at h))<;>((first|refine rg ?_|refine rd qq ?_);(conv=>whnf))) | (refine Ac rfl (.cons .tmp .nil) ?_ rfl) | (refine⟨qq,?_⟩;((conv=>whnf);repeat((refine aT ?_);(refine rg ?_);(conv=>whnf)))) | (refine⟨by (first | omega | ((have hq:=hle qn;unfold I64;omega))),by (first | omega | ((have hq:=hle qn;unfold I64;omega))),?_⟩;((conv=>whnf)))))
 all_goals (refine congrArg Aa ?_;rw[hfar])
 ·simp_all
 ·have h1:up.getD p.link.toNat false=false:=by rw[A7 qn];assumption
  rw[h1];simp
 ·have h1:up.getD p.link.toNat false=true:=by rw[A7 qn];assumption
  rw[h1,Am qn]
  simp_all
def Lk (n:Net) (up:List Bool) (ranks roots costs:List Int):SV:=.ref 12 (.agg (M8 n up ranks (.sl 1 Aa roots) (.sl 1 Aa costs))) 0
def Jq (n:Net) (ranks costs:List Int) (i k:Nat):Bool :=
 let a:=(n.ports.getD i default).dev
 let b:=(n.ports.getD k default).dev
 decide (nth costs a<nth costs b) || (nth costs a == nth costs b && decide (nth ranks a<nth ranks b))
theorem Aea (n:Net) (up:List Bool) (ranks roots costs:List Int) (i k:Nat) (hr:Af n=true) (hrk:ranks.length=n.devices.length) (hc:costs.length=n.devices.length) (hi:i<n.ports.length) (hk:k<n.ports.length) :
  Sy.Spec Tryz.prog 223 [Lk n up ranks roots costs,Aa i,Aa k] [] (Ad (Jq n ranks costs i k)) []:=Ab Γ hm 100 F223 Tryz.ntmps223 rfl fun F hF=>by
 have hd1:=Lr hr hi
 have hd2:=Lr hr hk
 have e1:n.ports[(i:Int).toNat]'qn=n.ports[i]:=rfl
 have e2:n.ports[(k:Int).toNat]'qn=n.ports[k]:=rfl
 have hres:Jq n ranks costs i k=(decide (nth costs n.ports[i].dev<nth costs n.ports[k].dev) || (nth costs n.ports[i].dev == nth costs n.ports[k].dev && decide (nth ranks n.ports[i].dev<nth ranks n.ports[k].dev))):=by
  rw[Jq,A7 hi,A7 hk]
 rw[Am qn,Am qn,Am qn,Am qn]at hres
 conv=>whnf
 (repeat' (first | (refine⟨fun h=>?_,fun h=>?_⟩<;>(repeat (first | simp only[decide_eq_true_eq]at h | simp only[decide_eq_false_iff_not]at h | simp only[beq_iff_eq]at h | simp only[beq_eq_false_iff_ne]at h))<;>((refine rd qq ?_);(conv=>whnf))) | (refine Ac rfl (.cons .tmp .nil) ?_ rfl) | (refine⟨qq,?_⟩;((conv=>whnf))) | (refine⟨by (first | omega | (simp only[Int.toNat_natCast];omega)),by (first | omega | (simp only[Int.toNat_natCast];omega)),?_⟩;((conv=>whnf)))))
 all_goals (refine congrArg Ad ?_;rw[hres];clear hF hres hr;simp only[Int.toNat_natCast]at *;grind)
end Go.Sy.YteinjapglfkamaaGreat
