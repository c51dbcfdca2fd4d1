/-
  Contracts: frames within packets: heads taken, frames wrapped (vxlan, palingref09). Contracts: frames wrapped (vxlan.Wrap, palingref09.Wrap). Contracts: frames taken out of packets (vxlan.Unwrap, palingref09.Unwrap). Contracts: what goes through a mesh (leave.Mesh, palingref28.Mesh). Contracts: frames taken out of packets, by the document. Printed by mkK36.py. Contracts: what comes out of a mesh (leave.Come, palingref28.Come). Contracts: what comes out of a mesh, by the document. Plain facts: prefixes. The document's prefixes and leaks. The document's lookup of a route. Contracts: routers' addresses, packets led on (vrfs.Router, route.Hop; palingref20.Router, palingref30.Hop). Contracts: packets led on: route.Hop, palingref30.Hop. Contracts: queues (queue, palingref32). Contracts: queue.Take. Contracts: rows of entries are cloned, searched, and let members go. Contracts: tables. Contracts: tables learn, and let old entries go. Contracts: a table learns. Contracts: lookup: a room, its ports and peers. Contracts: lookup: which ports and peers; a room is opened. Contracts: lookup.Flood; static entries. Contracts: static entries; where an address is known; lookup.Decide. Contracts: where an address is known; lookup.Decide. Contracts: lookup.Decide. The document's lookup: usable ports, which frames fit, floods. The document's lookup: floods. The document's lookup: static entries; one port. The document's tables. The document's table learns. The document's table learns: the walk. The document's lookup: Decide.
-/
import Derived.Test.YtmelpejjondedaaGreatB8
import Derived.Test.YtmelpejjondedaaGreatB5
import Derived.Test.YtmelpejjondedaaGreatB6

namespace Go.Sy.YtmelpejjondedaaGreat
open Go.Proofs
attribute [local irreducible] Go.Sy.G Go.Sy.DR
set_option maxRecDepth 100000
set_option maxHeartbeats 4000000
theorem bytesB_eq (a b : List UInt8) : ((⟨a.toArray⟩ : ByteArray) == (⟨b.toArray⟩ : ByteArray)) = decide (a = b) := by
  have key := Go.MapKept.bytes_beq (⟨a.toArray⟩ : ByteArray) ⟨b.toArray⟩
  by_cases h : a = b
  · subst h
    rw [decide_eq_true rfl]
    exact key.2 rfl
  · rw [decide_eq_false h]
    cases hb : ((⟨a.toArray⟩ : ByteArray) == (⟨b.toArray⟩ : ByteArray)) with
    | false => rfl
    | true =>
      have := congrArg (fun z : ByteArray => z.data.toList) (key.1 hb)
      exact absurd (by simpa using this) h
theorem three_or (x y z : UInt8) : bits .or .i64 (bits .or .i64 (IntKind.i64.wrap ((IntKind.i64.wrap (x.toNat : Int)) * 2 ^ min (Int.toNat 16) IntKind.i64.bits)) (IntKind.i64.wrap ((IntKind.i64.wrap (y.toNat : Int)) * 2 ^ min (Int.toNat 8) IntKind.i64.bits))) (IntKind.i64.wrap (z.toNat : Int))
    = (((x.toNat * 256 + y.toNat) * 256 + z.toNat : Nat) : Int) := by
  have h1 := x.toNat_lt
  have h2 := y.toNat_lt
  have h3 := z.toNat_lt
  have e1 : IntKind.i64.wrap (x.toNat : Int) = (x.toNat : Int) := by rw [IntKind.wrap_i64]; omega
  have e2 : IntKind.i64.wrap (y.toNat : Int) = (y.toNat : Int) := by rw [IntKind.wrap_i64]; omega
  have e3 : IntKind.i64.wrap (z.toNat : Int) = (z.toNat : Int) := by rw [IntKind.wrap_i64]; omega
  rw [e1, e2, e3]
  have f1 : IntKind.i64.wrap ((x.toNat : Int) * 2 ^ min (Int.toNat 16) IntKind.i64.bits) = ((x.toNat * 65536 : Nat) : Int) := by
    show IntKind.i64.wrap ((x.toNat : Int) * 65536) = _
    rw [IntKind.wrap_i64]
    omega
  have f2 : IntKind.i64.wrap ((y.toNat : Int) * 2 ^ min (Int.toNat 8) IntKind.i64.bits) = ((y.toNat * 256 : Nat) : Int) := by
    show IntKind.i64.wrap ((y.toNat : Int) * 256) = _
    rw [IntKind.wrap_i64]
    omega
  rw [f1, f2, bits_or_i64_nat _ _ (by omega) (by omega)]
  have g1 : x.toNat * 65536 ||| y.toNat * 256 = x.toNat * 65536 + y.toNat * 256 := by
    have h := Nat.two_pow_add_eq_or_of_lt (i := 16) (b := y.toNat * 256) (by omega) x.toNat
    rw [Nat.mul_comm x.toNat 65536]
    exact h.symm
  rw [g1, bits_or_i64_nat _ _ (by omega) (by omega)]
  refine congrArg (fun n : Nat => (n : Int)) ?_
  have h : 256 * (x.toNat * 256 + y.toNat) + z.toNat = 256 * (x.toNat * 256 + y.toNat) ||| z.toNat := Nat.two_pow_add_eq_or_of_lt (i := 8) (b := z.toNat) (by omega) (x.toNat * 256 + y.toNat)
  have e : x.toNat * 65536 + y.toNat * 256 = 256 * (x.toNat * 256 + y.toNat) := by omega
  rw [e, ← h]
  omega
theorem vniS (b : List UInt8) (hb : b.length < 100000) : Sy.Spec Tryz.prog 340 [.sl 1 byteSV b] [] (.tup [intSV (vniT b).1, .sl 1 byteSV (vniT b).2.1, intSV (vniT b).2.2]) [] := contract Γ hm 100 F340 Tryz.ntmps340 rfl fun F hF => by
  have hres := vniT.eq_1 b
  generalize vniT b = res at *
  (conv=>whnf)
  refine ⟨fun h => ?_, fun h => ?_⟩
  · rw [if_pos (by have := of_decide_eq_true h; omega)] at hres
    subst hres
    (refine rg ?_;(conv=>whnf))
    refine G_nilsl 3 1 byteSV rfl ?_
    exact done0 rfl (.cons .tmp (.cons .tmp (.cons .tmp .nil))) rfl rfl
  have h8 : 8 ≤ b.length := by have := of_decide_eq_false h; omega
  rw [if_neg (by omega)] at hres
  clear h
  have i4 : (4 : Int).toNat < b.length := by show 4 < _; omega
  have i5 : (5 : Int).toNat < b.length := by show 5 < _; omega
  have i6 : (6 : Int).toNat < b.length := by show 6 < _; omega
  have hv : bits .or .i64 (bits .or .i64 (IntKind.i64.wrap ((IntKind.i64.wrap ((b[(4 : Int).toNat]'i4).toNat : Int)) * 2 ^ min (Int.toNat 16) IntKind.i64.bits)) (IntKind.i64.wrap ((IntKind.i64.wrap ((b[(5 : Int).toNat]'i5).toNat : Int)) * 2 ^ min (Int.toNat 8) IntKind.i64.bits))) (IntKind.i64.wrap ((b[(6 : Int).toNat]'i6).toNat : Int))
      = (numAt b 4 3 : Int) := by
    rw [three_or, numAt3 (show 4 + 3 ≤ b.length by omega)]
    rfl
  have hvl := numAt_lt b 4 3
  (refine rg ?_;(conv=>whnf))
  refine ⟨rfl, by decide, i4, ?_⟩
  (conv=>whnf)
  refine ⟨by decide, ?_⟩
  (conv=>whnf)
  refine ⟨rfl, by decide, i5, ?_⟩
  (conv=>whnf)
  refine ⟨by decide, ?_⟩
  (conv=>whnf)
  refine ⟨rfl, by decide, i6, ?_⟩
  (conv=>whnf)
  refine ⟨(by kernel_rfl), ?_⟩
  rw [hv]
  generalize hvv : numAt b 4 3 = v at *
  (conv=>whnf)
  by_cases h0 : v = 0
  · rw [if_pos (.inl h0)] at hres
    subst hres
    have q := headBad v (by rw [h0]; decide)
    refine call0 q F309 rfl rfl rfl rfl rfl ?_
    (refine rg ?_;(conv=>whnf);refine aT ?_;refine rd (by kernel_rfl) ?_;(conv=>whnf))
    refine ⟨(by kernel_rfl), ?_⟩
    ((conv=>whnf);refine aT ?_;refine rg ?_;(conv=>whnf))
    refine G_nilsl 3 1 byteSV rfl ?_
    exact done0 rfl (.cons .tmp (.cons .tmp (.cons .tmp .nil))) rfl rfl
  have q := headOk v (by omega)
  refine stepOp (good_call [(0, 55)] rfl F309 q rfl trivial rfl ⟨.inr rfl, trivial⟩) rfl rfl ?_
  refine G_data 55 rfl ?_
  (refine rg ?_;(conv=>whnf);refine aF ?_;refine rd (by kernel_rfl) ?_;(conv=>whnf))
  refine stepD (good_stringT Γ.toTy (bs := headB v) rfl rfl rfl rfl rfl rfl rfl .sl) (by kernel_rfl) rfl ?_
  (refine rd (by kernel_rfl) ?_;(conv=>whnf))
  refine stepD (good_slice_sl (lo := 0) (hi := 8) Γ.toTy rfl rfl rfl rfl (.inl ⟨rfl, rfl⟩) (.inr ⟨_, _, rfl, rfl⟩) (by omega) h8) (by kernel_rfl) rfl ?_
  (refine rd (by kernel_rfl) ?_;(conv=>whnf))
  refine stepD (good_stringT Γ.toTy (bs := b.take 8) rfl rfl rfl rfl rfl rfl rfl .sl) (by kernel_rfl) rfl ?_
  (refine rd (by kernel_rfl) ?_;(conv=>whnf))
  refine ⟨(by kernel_rfl), ?_⟩
  (conv=>whnf)
  have hbe := bytesB_eq (headB v) (b.take 8)
  rw [hbe]
  by_cases he : b.take 8 = headB v
  rotate_left
  · rw [if_pos (.inr he)] at hres
    subst hres
    rw [decide_eq_false (fun e => he e.symm)]
    refine ⟨fun _ => ?_, fun h => absurd h (by decide)⟩
    (refine rg ?_;(conv=>whnf))
    refine G_nilsl 3 1 byteSV rfl ?_
    exact done0 rfl (.cons .tmp (.cons .tmp (.cons .tmp .nil))) rfl rfl
  rw [if_neg (fun h => h.elim h0 (fun h2 => h2 he))] at hres
  subst hres
  rw [decide_eq_true he.symm]
  have etk : (b.take b.length).drop 8 = b.drop 8 := by rw [List.take_length]
  refine ⟨fun h => absurd h (by decide), fun _ => ?_⟩
  (refine rg ?_;(conv=>whnf))
  refine stepOp (good_slice_sl (lo := 8) (hi := b.length) Γ.toTy rfl rfl rfl rfl (.inr ⟨_, _, rfl, rfl⟩) (.inl ⟨rfl, rfl⟩) h8 (Nat.le_refl _)) rfl rfl ?_
  (refine rg ?_;(conv=>whnf))
  refine stepOp (good_appendT Γ.toTy 45 rfl rfl rfl rfl rfl .nil .sl (by simp) (by simp; omega) (by simp; omega)) rfl rfl ?_
  refine G_data 45 rfl ?_
  (refine rg ?_;(conv=>whnf))
  refine done0 rfl (.cons .tmp (.cons .tmp (.cons .tmp .nil))) ?_ rfl
  show SV.tup [_, .sl 1 byteSV (b.drop 8), _] = SV.tup [_, .sl 1 byteSV ([] ++ (b.take b.length).drop 8), _]
  rw [etk]
  rfl
end Go.Sy.YtmelpejjondedaaGreat

namespace Go.Sy.YtmelpejjondedaaGreat
open Go.Proofs
attribute [local irreducible] Go.Sy.G Go.Sy.DR
set_option maxRecDepth 100000
set_option maxHeartbeats 4000000
theorem ipPutT_wrap (a c v : Nat) (f : FrameM) (h : f.body.length ≤ 1450) : ipPutT (wrapP a c v f) = (ipBy (wrapP a c v f), 0) := by
  rw [ipPutT, if_neg (by rw [wrapP_length]; omega)]
theorem udpPort_lt (a b : Nat) : udpPort a b ≤ 65535 := by
  have := Nat.mod_lt (a ^^^ b) (show 0 < 16384 by decide)
  unfold udpPort
  omega
theorem outer_ok (a c v : Nat) (f : FrameM) (ha : a < 4294967296) (hc : c < 4294967296) (h : f.body.length ≤ 1450) : FrameOK ⟨hostN c, hostN a, 2048, ipBy (wrapP a c v f)⟩ :=
  ⟨hostN_lt c hc, hostN_lt a ha, by show (2048 : Nat) ≤ 65535; decide, by show (ipBy (wrapP a c v f)).length ≤ 1504; rw [ipBy_length, wrapP_length]; omega⟩
theorem vxWrapS (a c : Nat) (v : Int) (f : FrameM) (ha : a < 4294967296) (hc : c < 4294967296) (hf : FrameOK f) :
    Sy.Spec Tryz.prog 253 [u32SV a, u32SV c, intSV v, frameSV f] [] (.tup [.sl 1 byteSV (wrapT a c v f).1, intSV (wrapT a c v f).2]) [] := contract Γ hm 100 F253 Tryz.ntmps253 rfl fun F hF => by
  have hres := wrapT.eq_1 a c v f
  generalize wrapT a c v f = res at *
  have q0 := tagIs2S f
  have hd := hf.dst
  have hs := hf.src
  have hb := hf.body
  have hpl := putF_length f
  (conv=>whnf)
  refine G_box 7 4 (frameSV f) rfl rfl rfl ?_
  by_cases ht : f.typ = 33024
  · rw [if_pos ht] at hres
    subst hres
    rw [decide_eq_true ht] at q0
    (refine rg ?_;(conv=>whnf))
    refine call0 q0 F166 rfl rfl rfl rfl rfl ?_
    (refine rg ?_;(conv=>whnf);refine aT ?_;refine rg ?_;(conv=>whnf))
    refine G_nilsl 8 1 byteSV rfl ?_
    exact done0 rfl (.cons .tmp (.cons .tmp .nil)) rfl rfl
  rw [if_neg ht] at hres
  rw [decide_eq_false ht] at q0
  (refine rg ?_;(conv=>whnf))
  refine call0 q0 F166 rfl rfl rfl rfl rfl ?_
  (refine rg ?_;(conv=>whnf);refine aF ?_;refine rg ?_;(conv=>whnf))
  refine stepOp (good_call [(0, 55)] rfl F33 (etherPutS f hf) rfl trivial rfl ⟨.inr rfl, trivial⟩) rfl rfl ?_
  refine G_data 55 rfl ?_
  (refine rg ?_;(conv=>whnf);refine aF ?_;refine rg ?_;(conv=>whnf))
  cases hv : vniBad v
  rotate_left
  · rw [if_pos hv] at hres
    subst hres
    refine call0 (headBad v hv) F309 rfl rfl rfl rfl rfl ?_
    (refine rg ?_;(conv=>whnf);refine aT ?_;refine rg ?_;(conv=>whnf))
    refine G_nilsl 8 1 byteSV rfl ?_
    exact done0 rfl (.cons .tmp (.cons .tmp .nil)) rfl rfl
  rw [if_neg (by rw [hv]; decide)] at hres
  have hvg := vni_good hv
  obtain ⟨k, rfl⟩ := Int.eq_ofNat_of_zero_le (show 0 ≤ v by omega)
  rw [Int.toNat_natCast] at hres
  refine stepOp (good_call [(0, 56)] rfl F309 (headOk k (by omega)) rfl trivial rfl ⟨.inr rfl, trivial⟩) rfl rfl ?_
  (refine rg ?_;(conv=>whnf);refine aF ?_;refine rg ?_;(conv=>whnf))
  refine ⟨fun h => ?_, fun h => ?_⟩
  · rw [if_pos (by have := of_decide_eq_true h; omega)] at hres
    subst hres
    (refine rg ?_;(conv=>whnf))
    refine G_nilsl 8 1 byteSV rfl ?_
    exact done0 rfl (.cons .tmp (.cons .tmp .nil)) rfl rfl
  have hl : f.body.length ≤ 1450 := by have := of_decide_eq_false h; omega
  rw [if_neg (by omega)] at hres
  subst hres
  clear h
  have qp := udpPortS f.dst f.src (by omega) (by omega)
  have hpo := udpPort_lt f.dst f.src
  have qu := udpPutS (udpPort f.dst f.src) 4789 (headB k ++ putF f) hpo (by decide) (by rw [List.length_append, headB_length, hpl]; omega)
  have hwb : (wrapP a c k f).body = udpT (udpPort f.dst f.src) 4789 (headB k ++ putF f) := rfl
  have qi := ipPut2S (wrapP a c k f) (wrapP_ok a c k f ha hc) (by rw [wrapP_length]; omega)
  rw [ipPutT_wrap a c k f hl] at qi
  have qe := etherPutS _ (outer_ok a c k f ha hc hl)
  (refine rg ?_;(conv=>whnf))
  refine call0 qp F311 rfl rfl rfl rfl rfl ?_
  (refine rg ?_;(conv=>whnf))
  refine stepOp (good_appendT Γ.toTy 46 rfl rfl rfl rfl rfl (.row rfl) .sl (by decide) (by rw [headB_length, hpl]; simp; omega) (by rw [headB_length, hpl]; omega)) rfl rfl ?_
  refine G_data 46 rfl ?_
  (refine rg ?_;(conv=>whnf))
  refine call0 qu F310 rfl rfl rfl rfl rfl ?_
  (refine rg ?_;(conv=>whnf))
  refine call0 qi F248 rfl rfl rfl rfl rfl ?_
  (refine rg ?_;(conv=>whnf))
  refine call0 (hostS c hc) F244 rfl rfl rfl rfl rfl ?_
  (refine rg ?_;(conv=>whnf))
  refine call0 (hostS a ha) F244 rfl rfl rfl rfl rfl ?_
  (refine rg ?_;(conv=>whnf))
  refine stepOp (good_call [(0, 57)] rfl F33 qe rfl trivial rfl ⟨.inr rfl, trivial⟩) rfl rfl ?_
  refine G_data 57 rfl ?_
  (refine rg ?_;(conv=>whnf))
  exact done0 rfl (.cons .tmp (.cons .tmp .nil)) rfl rfl
end Go.Sy.YtmelpejjondedaaGreat

namespace Go.Sy.YtmelpejjondedaaGreat
open Go.Proofs
attribute [local irreducible] Go.Sy.G Go.Sy.DR
set_option maxRecDepth 100000
set_option maxHeartbeats 4000000
def readerL (p : PacketM) (v e : Int) : List SV := [intSV p.tos, intSV p.id, intSV p.ttl, intSV p.proto, u32SV p.src, u32SV p.dst, .sl 1 byteSV p.body, intSV v, intSV e]
def failE (is : Bool) (re e : Int) : Int := if is = true ∧ re = 0 then e else re
theorem failS (p : PacketM) (v re : Int) (is : Bool) (e : Int) : Sy.Spec Tryz.prog 338 [.ptr 0 0, boolSV is, intSV e] [(0, .box (readerL p v re))] (.tup []) [(0, .box (readerL p v (failE is re e)))] := contract Γ hm 100 F338 Tryz.ntmps338 rfl fun F hF => by
  cases is
  · have h : failE false re e = re := by simp [failE]
    rw [h]
    ((conv=>whnf);refine aF ?_;refine rg ?_;(conv=>whnf);refine aF ?_;refine rg ?_;(conv=>whnf))
    exact done_end rfl .nil [] [(0, .box (readerL p v re))] (fun _ h => h) rfl rfl ⟨trivial, ⟨.inl rfl, rfl, trivial⟩, rfl, rfl⟩
  · ((conv=>whnf);refine aT ?_;refine rg ?_;(conv=>whnf))
    refine ⟨fun h => ?_, fun h => ?_⟩
    · have h2 : failE true re e = e := by show (if true = true ∧ re = 0 then e else re) = e; rw [if_pos ⟨rfl, by simpa using h⟩]
      rw [h2]
      (refine rg ?_;(conv=>whnf))
      exact done_end rfl .nil [] [(0, .box (readerL p v e))] (fun _ h => h) rfl rfl ⟨trivial, ⟨.inl rfl, rfl, trivial⟩, rfl, rfl⟩
    · have h2 : failE true re e = re := by
        show (if true = true ∧ re = 0 then e else re) = re
        rw [if_neg (fun h3 => by
          have h4 : ¬ re = 0 := by simpa using h
          exact h4 h3.2)]
      rw [h2]
      (refine rg ?_;(conv=>whnf))
      exact done_end rfl .nil [] [(0, .box (readerL p v re))] (fun _ h => h) rfl rfl ⟨trivial, ⟨.inl rfl, rfl, trivial⟩, rfl, rfl⟩
theorem packetS (b : List UInt8) (hb : b.length < 100000) : Sy.Spec Tryz.prog 316 [.ptr 0 0, .sl 1 byteSV b] [(0, .box (readerL noP 0 0))] (.tup []) [(0, .box (readerL (outerT b).1 0 (outerT b).2))] := contract Γ hm 100 F316 Tryz.ntmps316 rfl fun F hF => by
  have hres := outerT.eq_1 b
  generalize outerT b = res at *
  have q1 := etherTakeS b hb
  have hbad := @takeF_bad b
  have hok := @takeF_ok b
  generalize takeF b = tk at *
  obtain ⟨f, e⟩ := tk
  dsimp only at hres q1 hbad hok
  (conv=>whnf)
  refine call0 q1 F165 rfl rfl rfl rfl rfl ?_
  (refine rg ?_;(conv=>whnf))
  refine stepOp (good_call [(0, 0)] rfl F338 (failS noP 0 0 true e) rfl ⟨rfl, trivial⟩ rfl ⟨.inl rfl, trivial⟩) rfl rfl ?_
  rw [show failE true 0 e = e by simp [failE]]
  (refine rg ?_;(conv=>whnf))
  refine stepOp (good_call [(0, 0)] rfl F338 (failS noP 0 e ((f.typ : Int) != 2048) 11) rfl ⟨rfl, trivial⟩ rfl ⟨.inl rfl, trivial⟩) rfl rfl ?_
  by_cases he : e = 0
  rotate_left
  · rw [if_pos he] at hres
    subst hres
    rw [show failE ((f.typ : Int) != 2048) e 11 = e by simp [failE, he]]
    (refine rg ?_;(conv=>whnf))
    refine ⟨fun h => absurd (show e = 0 by simpa using h) he, fun _ => ?_⟩
    (refine rg ?_;(conv=>whnf))
    exact done_end rfl .nil [] [(0, .box (readerL noP 0 e))] (fun _ h => h) rfl rfl ⟨trivial, ⟨.inl rfl, rfl, trivial⟩, rfl, rfl⟩
  subst he
  rw [if_neg (by simp)] at hres
  by_cases ht : f.typ = 2048
  rotate_left
  · rw [if_pos ht] at hres
    subst hres
    have hb2 : ((f.typ : Int) != 2048) = true := by simp; omega
    rw [hb2, show failE true 0 11 = 11 by simp [failE]]
    (refine rg ?_;(conv=>whnf);refine aF ?_;refine rg ?_;(conv=>whnf))
    exact done_end rfl .nil [] [(0, .box (readerL noP 0 11))] (fun _ h => h) rfl rfl ⟨trivial, ⟨.inl rfl, rfl, trivial⟩, rfl, rfl⟩
  rw [if_neg (fun h => h ht)] at hres
  have hb2 : ((f.typ : Int) != 2048) = false := by simp; omega
  rw [hb2, show failE false 0 11 = 0 by simp [failE]]
  have hfb := (hok rfl).body
  have q2 := ipTakeS f.body (by omega)
  have hib := @ipTakeT_bad f.body
  generalize ipTakeT f.body = ip at *
  obtain ⟨p, e2⟩ := ip
  dsimp only at hres q2 hib
  (refine rg ?_;(conv=>whnf);refine aT ?_;refine rg ?_;(conv=>whnf))
  refine call0 q2 F245 rfl rfl rfl rfl rfl ?_
  (refine rg ?_;(conv=>whnf))
  refine stepOp (good_call [(0, 0)] rfl F338 (failS p 0 0 true e2) rfl ⟨rfl, trivial⟩ rfl ⟨.inl rfl, trivial⟩) rfl rfl ?_
  rw [show failE true 0 e2 = e2 by simp [failE]]
  (refine rg ?_;(conv=>whnf))
  refine stepOp (good_call [(0, 0)] rfl F338 (failS p 0 e2 ((p.proto : Int) != 17) 11) rfl ⟨rfl, trivial⟩ rfl ⟨.inl rfl, trivial⟩) rfl rfl ?_
  have hfin : res = (p, failE ((p.proto : Int) != 17) e2 11) := by
    by_cases h2 : e2 = 0
    · subst h2
      rw [if_neg (by simp)] at hres
      rw [hres]
      simp only [failE]
      by_cases h3 : p.proto = 17
      · rw [if_neg (by simp [h3]), if_neg (by simp [h3])]
      · rw [if_pos h3, if_pos (by simp; omega)]
    · rw [if_pos h2] at hres
      rw [hres, hib h2, show failE ((noP.proto : Int) != 17) e2 11 = e2 by simp [failE, h2]]
  rw [hfin]
  (refine rg ?_;(conv=>whnf))
  exact done_end rfl .nil [] [(0, .box (readerL p 0 (failE ((p.proto : Int) != 17) e2 11)))] (fun _ h => h) rfl rfl ⟨trivial, ⟨.inl rfl, rfl, trivial⟩, rfl, rfl⟩
def frameT (p : PacketM) (e : Int) : FrameM × Int × Int :=
  if e ≠ 0 then (noF, 0, e) else if (udpTakeT p.body).2.2.2 ≠ 0 then (noF, 0, (udpTakeT p.body).2.2.2) else if (udpTakeT p.body).2.1 ≠ 4789 then (noF, 0, 11)
  else if (vniT (udpTakeT p.body).2.2.1).2.2 ≠ 0 then (noF, (vniT (udpTakeT p.body).2.2.1).1, (vniT (udpTakeT p.body).2.2.1).2.2)
  else ((takeF (vniT (udpTakeT p.body).2.2.1).2.1).1, (vniT (udpTakeT p.body).2.2.1).1,
    if (takeF (vniT (udpTakeT p.body).2.2.1).2.1).2 ≠ 0 then (takeF (vniT (udpTakeT p.body).2.2.1).2.1).2 else if (takeF (vniT (udpTakeT p.body).2.2.1).2.1).1.typ = 33024 then 15 else 0)
theorem frameS (p : PacketM) (e : Int) (hb : p.body.length < 100000) : Sy.Spec Tryz.prog 317 [.ptr 0 0] [(0, .box (readerL p 0 e))] (frameSV (frameT p e).1) [(0, .box (readerL p (frameT p e).2.1 (frameT p e).2.2))] := contract Γ hm 100 F317 Tryz.ntmps317 rfl fun F hF => by
  have hres := frameT.eq_1 p e
  generalize frameT p e = res at *
  have q1 := udpTakeS p.body hb
  have hul := @udpTakeT_body p.body
  generalize udpTakeT p.body = u at *
  obtain ⟨u1, u2, u3, u4⟩ := u
  dsimp only at hres q1 hul
  have q2 := vniS u3 (by omega)
  have hvl := @vniT_body u3
  generalize vniT u3 = w at *
  obtain ⟨w1, w2, w3⟩ := w
  dsimp only at hres q2 hvl
  have q3 := etherTakeS w2 (by omega)
  have hbad := @takeF_bad w2
  generalize takeF w2 = t at *
  obtain ⟨f, t2⟩ := t
  dsimp only at hres q3 hbad
  (conv=>whnf)
  refine ⟨fun h => ?_, fun h => ?_⟩
  · rw [if_pos (by simpa using h)] at hres
    subst hres
    (refine rg ?_;(conv=>whnf))
    refine G_boxV 2 zF rfl (.cons (.refl _) (.cons (.refl _) (.cons (.refl _) (.cons .nil .nil)))) ?_
    exact done rfl (.cons (.cell rfl rfl rfl rfl) .nil) [] [(0, .box (readerL p 0 e))] (fun _ h => h) rfl rfl ⟨trivial, ⟨.inl rfl, rfl, trivial⟩, rfl, rfl⟩
  have he : e = 0 := by simpa using h
  clear h
  subst he
  rw [if_neg (by simp)] at hres
  (refine rg ?_;(conv=>whnf))
  refine call0 q1 F339 rfl rfl rfl rfl rfl ?_
  (refine rg ?_;(conv=>whnf))
  refine stepOp (good_call [(0, 0)] rfl F338 (failS p 0 0 true u4) rfl ⟨rfl, trivial⟩ rfl ⟨.inl rfl, trivial⟩) rfl rfl ?_
  rw [show failE true 0 u4 = u4 by simp [failE]]
  (refine rg ?_;(conv=>whnf))
  refine stepOp (good_call [(0, 0)] rfl F338 (failS p 0 u4 (u2 != 4789) 11) rfl ⟨rfl, trivial⟩ rfl ⟨.inl rfl, trivial⟩) rfl rfl ?_
  by_cases h4 : u4 = 0
  rotate_left
  · rw [if_pos h4] at hres
    subst hres
    rw [show failE (u2 != 4789) u4 11 = u4 by simp [failE, h4]]
    (refine rg ?_;(conv=>whnf))
    refine ⟨fun h => absurd (show u4 = 0 by simpa using h) h4, fun _ => ?_⟩
    (refine rg ?_;(conv=>whnf))
    refine ⟨fun _ => ?_, fun h => absurd (show u4 = 0 by simpa using h) h4⟩
    (refine rg ?_;(conv=>whnf))
    refine G_boxV 2 zF rfl (.cons (.refl _) (.cons (.refl _) (.cons (.refl _) (.cons .nil .nil)))) ?_
    exact done rfl (.cons (.cell rfl rfl rfl rfl) .nil) [] [(0, .box (readerL p 0 u4))] (fun _ h => h) rfl rfl ⟨trivial, ⟨.inl rfl, rfl, trivial⟩, rfl, rfl⟩
  subst h4
  rw [if_neg (by simp)] at hres
  by_cases h2 : u2 = 4789
  rotate_left
  · rw [if_pos h2] at hres
    subst hres
    rw [show failE (u2 != 4789) 0 11 = 11 by simp [failE, h2]]
    (refine rg ?_;(conv=>whnf);refine aF ?_;refine rg ?_;(conv=>whnf);refine aT ?_;refine rg ?_;(conv=>whnf))
    refine G_boxV 2 zF rfl (.cons (.refl _) (.cons (.refl _) (.cons (.refl _) (.cons .nil .nil)))) ?_
    exact done rfl (.cons (.cell rfl rfl rfl rfl) .nil) [] [(0, .box (readerL p 0 11))] (fun _ h => h) rfl rfl ⟨trivial, ⟨.inl rfl, rfl, trivial⟩, rfl, rfl⟩
  rw [if_neg (fun h => h h2)] at hres
  rw [show failE (u2 != 4789) 0 11 = 0 by simp [failE, h2]]
  (refine rg ?_;(conv=>whnf);refine aT ?_;refine rg ?_;(conv=>whnf))
  refine call0 q2 F340 rfl rfl rfl rfl rfl ?_
  (refine rg ?_;(conv=>whnf))
  refine stepOp (good_call [(0, 0)] rfl F338 (failS p w1 0 true w3) rfl ⟨rfl, trivial⟩ rfl ⟨.inl rfl, trivial⟩) rfl rfl ?_
  rw [show failE true 0 w3 = w3 by simp [failE]]
  (refine rg ?_;(conv=>whnf))
  refine ⟨fun h => ?_, fun h => ?_⟩
  · rw [if_pos (by simpa using h)] at hres
    subst hres
    (refine rg ?_;(conv=>whnf))
    refine G_boxV 2 zF rfl (.cons (.refl _) (.cons (.refl _) (.cons (.refl _) (.cons .nil .nil)))) ?_
    exact done rfl (.cons (.cell rfl rfl rfl rfl) .nil) [] [(0, .box (readerL p w1 w3))] (fun _ h => h) rfl rfl ⟨trivial, ⟨.inl rfl, rfl, trivial⟩, rfl, rfl⟩
  have h3 : w3 = 0 := by simpa using h
  clear h
  subst h3
  rw [if_neg (by simp)] at hres
  (refine rg ?_;(conv=>whnf))
  refine call0 q3 F165 rfl rfl rfl rfl rfl ?_
  (refine rg ?_;(conv=>whnf))
  refine stepOp (good_call [(0, 0)] rfl F338 (failS p w1 0 true t2) rfl ⟨rfl, trivial⟩ rfl ⟨.inl rfl, trivial⟩) rfl rfl ?_
  rw [show failE true 0 t2 = t2 by simp [failE]]
  (refine rg ?_;(conv=>whnf))
  refine call0 (tagIs2S f) F166 rfl rfl rfl rfl rfl ?_
  (refine rg ?_;(conv=>whnf))
  refine stepOp (good_call [(0, 0)] rfl F338 (failS p w1 t2 (decide (f.typ = 33024)) 15) rfl ⟨rfl, trivial⟩ rfl ⟨.inl rfl, trivial⟩) rfl rfl ?_
  have hfin : failE (decide (f.typ = 33024)) t2 15 = if t2 ≠ 0 then t2 else if f.typ = 33024 then 15 else 0 := by
    by_cases k1 : t2 = 0
    · subst k1
      rw [if_neg (by simp)]
      by_cases k2 : f.typ = 33024 <;> simp [failE, k2]
    · rw [if_pos k1]
      simp [failE, k1]
  rw [← hfin] at hres
  subst hres
  (refine rg ?_;(conv=>whnf))
  exact done rfl (.cons (.cell rfl rfl rfl rfl) .nil) [] [(0, .box (readerL p w1 (failE (decide (f.typ = 33024)) t2 15)))] (fun _ h => h) rfl rfl ⟨trivial, ⟨.inl rfl, rfl, trivial⟩, rfl, rfl⟩
theorem unwrap_frame (b : List UInt8) : unwrapT b = if (frameT (outerT b).1 (outerT b).2).2.2 ≠ 0 then (0, 0, 0, noF, (frameT (outerT b).1 (outerT b).2).2.2)
    else ((outerT b).1.src, (outerT b).1.dst, (frameT (outerT b).1 (outerT b).2).2.1, (frameT (outerT b).1 (outerT b).2).1, 0) := by
  unfold unwrapT
  generalize outerT b = o
  obtain ⟨p, e⟩ := o
  dsimp only
  by_cases he : e = 0
  rotate_left
  · rw [if_pos he]
    have h1 : frameT p e = (noF, 0, e) := by rw [frameT, if_pos he]
    rw [h1, if_pos he]
  subst he
  rw [if_neg (by simp)]
  unfold innerT frameT
  rw [if_neg (show ¬ (0 : Int) ≠ 0 by simp)]
  generalize udpTakeT p.body = u
  obtain ⟨u1, u2, u3, u4⟩ := u
  dsimp only
  by_cases h4 : u4 = 0
  rotate_left
  · rw [if_pos h4, if_pos h4, if_pos h4]
    dsimp only
    rw [if_pos h4]
  subst h4
  simp only [ne_eq, not_true_eq_false, if_false]
  by_cases h2 : u2 = 4789
  rotate_left
  · simp [h2]
  simp only [h2, not_true_eq_false, if_false]
  generalize vniT u3 = w
  obtain ⟨w1, w2, w3⟩ := w
  dsimp only
  by_cases h3 : w3 = 0
  rotate_left
  · simp [h3]
  simp only [h3, not_true_eq_false, if_false]
  generalize takeF w2 = t
  obtain ⟨f, t2⟩ := t
  dsimp only
  by_cases k1 : t2 = 0
  · by_cases k2 : f.typ = 33024 <;> simp [k1, k2]
  · simp [k1]
theorem vxUnwrapS (b : List UInt8) (hb : b.length < 100000) :
    Sy.Spec Tryz.prog 259 [.sl 1 byteSV b] [] (.tup [u32SV (unwrapT b).1, u32SV (unwrapT b).2.1, intSV (unwrapT b).2.2.1, frameSV (unwrapT b).2.2.2.1, intSV (unwrapT b).2.2.2.2]) [] := contract Γ hm 100 F259 Tryz.ntmps259 rfl fun F hF => by
  have hres := unwrap_frame b
  generalize unwrapT b = res at *
  have q1 := packetS b hb
  have hol := (outerT_ok b).2
  generalize outerT b = o at *
  obtain ⟨p, e⟩ := o
  dsimp only at hres q1 hol
  have q2 := frameS p e (by omega)
  generalize frameT p e = fr at *
  obtain ⟨f, v, e2⟩ := fr
  dsimp only at hres q2
  (conv=>whnf)
  refine G_boxV 9 (readerL noP 0 0) rfl (.cons (.refl _) (.cons (.refl _) (.cons (.refl _) (.cons (.refl _) (.cons (.refl _) (.cons (.refl _) (.cons .nil (.cons (.refl _) (.cons (.refl _) .nil))))))))) ?_
  (refine rg ?_;(conv=>whnf))
  refine stepOp (good_call [(0, 9)] rfl F316 q1 rfl ⟨rfl, trivial⟩ rfl ⟨.inl rfl, trivial⟩) rfl rfl ?_
  (refine rg ?_;(conv=>whnf))
  refine stepOp (good_call [(0, 9)] rfl F317 q2 rfl ⟨rfl, trivial⟩ rfl ⟨.inl rfl, trivial⟩) rfl rfl ?_
  (refine rg ?_;(conv=>whnf))
  refine ⟨fun h => ?_, fun h => ?_⟩
  · rw [if_pos (by simpa using h)] at hres
    subst hres
    (refine rg ?_;(conv=>whnf))
    refine ⟨(by kernel_rfl), ?_⟩
    (conv=>whnf)
    refine G_boxV 5 zF rfl (.cons (.refl _) (.cons (.refl _) (.cons (.refl _) (.cons .nil .nil)))) ?_
    exact done0 rfl (.cons .tmp (.cons .tmp (.cons .tmp (.cons (.cell rfl rfl rfl rfl) (.cons .tmp .nil))))) rfl rfl
  rw [if_neg (by simpa using h)] at hres
  subst hres
  (refine rg ?_;(conv=>whnf))
  refine ⟨(by kernel_rfl), ?_⟩
  (conv=>whnf)
  exact done0 rfl (.cons .tmp (.cons .tmp (.cons .tmp (.cons (.cell rfl rfl rfl rfl) (.cons .tmp .nil))))) rfl rfl
end Go.Sy.YtmelpejjondedaaGreat

namespace Go.Sy.YtmelpejjondedaaGreat
open Go.Proofs
attribute [local irreducible] Go.Sy.G Go.Sy.DR
set_option maxRecDepth 100000
set_option maxHeartbeats 4000000
theorem indexFuncS_Device (l : List Device) (p : Device → Bool) (f : FuncId) (first cap : List SV) (hc : (SV.clo (.func f) first cap).inn [] = true) (hf : ∀ x ∈ l, FunS Tryz.prog f (first ++ [deviceSV x] ++ cap) (boolSV (p x))) (hl : Short l) :
    Sy.Spec Tryz.prog 318 [.sl 5 deviceSV l, .clo (.func f) first cap] [] (intSV (idxI p l)) [] := contract Γ hm 100 F318 Tryz.ntmps318 rfl fun F hF => by
  unfold Short at hl
  have hin : ∀ x : Device, innL [] (first ++ [deviceSV x] ++ cap) = true := fun x => clo_inn hc rfl
  (conv=>whnf)
  refine G_countP l.length (fun j => Upto (fun _ x => !(p x)) l j) (fun j => [(0, .sl 5 deviceSV l), (1, .clo (.func f) first cap), (7, intSV l.length), (8, intSV j)]) (fun _ => []) [] (upto_zero _ _) ⟨⟨rfl, rfl, ren_id _, hc, rfl, rfl, rfl, rfl, trivial⟩, trivial, rfl, rfl⟩ ?_
  intro j hj hI
  (refine rg ?_;(conv=>whnf))
  refine ⟨fun h => ?_, fun h => ?_⟩
  · have h := of_decide_eq_true h
    have hj2 : j < l.length := by omega
    (refine rg ?_;(conv=>whnf))
    refine ⟨rfl, by omega, by omega, ?_⟩
    (conv=>whnf)
    refine callC (hf l[j] (List.getElem_mem hj2)) rfl rfl rfl (by simp only [hin]; rfl) rfl rfl ?_
    (refine rg ?_;(conv=>whnf))
    refine ⟨fun h2 => ?_, fun h2 => ?_⟩
    · (refine rg ?_;(conv=>whnf))
      refine done0 rfl (.cons .tmp .nil) (congrArg intSV ?_) rfl
      exact idxI_found hj2 (fun i hi hij => by simpa using hI i hi hij) h2
    · (refine rg ?_;(conv=>whnf))
      refine ⟨by unfold I64; omega, ?_⟩
      (conv=>whnf)
      exact G_nextP [] hI hj2 (upto_next hI hj2 (by simp [h2])) ⟨⟨rfl, rfl, ren_id _, hc, rfl, rfl, rfl, rfl, trivial⟩, trivial, rfl, rfl⟩
  · have h := of_decide_eq_false h
    (refine rg ?_;(conv=>whnf))
    refine done0 rfl (.cons .tmp .nil) (congrArg intSV ?_) rfl
    exact idxI_none (fun i hi => by simpa using hI i hi (by omega))
theorem dom_dev {n : Net} (hb : netRightB n = true) {d : Int} (hd : DomIn n d) : 0 ≤ (n.domains[d.toNat]'hd.2).dev ∧ (n.domains[d.toNat]'hd.2).dev.toNat < n.devices.length := by
  simp only [netRightB, Bool.and_eq_true] at hb
  have := bare_dev hb.1.1.1.1.1.1.1.2 hd.2
  have := placeB_in2 this
  omega
theorem vtepI_eq {n : Net} (hb : netRightB n = true) {d : Int} (hd : DomIn n d) : vtepI n d = (n.devices[(n.domains[d.toNat]'hd.2).dev.toNat]'(dom_dev hb hd).2).vtep := by
  rw [vtepI, nth_eq hd.2, nth_eq (dom_dev hb hd).2]
theorem vtepI_lt {n : Net} (hm : n.Num) (hb : netRightB n = true) {d : Int} (hd : DomIn n d) : 0 ≤ vtepI n d ∧ vtepI n d < 4294967296 := by
  rw [vtepI_eq hb hd]
  exact hm.vtep _ (List.getElem_mem _)
theorem leaveVtepS (n : Net) (hb : netRightB n = true) (d : Int) (hd : DomIn n d) : Sy.Spec Tryz.prog 254 [netSV n, intSV d] [] (u32SV (vtepI n d)) [] := contract Γ hm 100 F254 Tryz.ntmps254 rfl fun F hF => by
  have hv := vtepI_eq hb hd
  have h2 := dom_dev hb hd
  obtain ⟨x, hx⟩ : ∃ x, n.domains[d.toNat]'hd.2 = x := ⟨_, rfl⟩
  rw [hx] at h2
  simp only [hx] at hv
  obtain ⟨y, hy⟩ : ∃ y, n.devices[x.dev.toNat]'h2.2 = y := ⟨_, rfl⟩
  rw [hy] at hv
  rw [hv]
  (conv=>whnf)
  refine ⟨rfl, hd.1, hd.2, ?_⟩
  rw [hx]
  (conv=>whnf)
  refine ⟨rfl, h2.1, h2.2, ?_⟩
  rw [hy]
  (conv=>whnf)
  refine ⟨(by kernel_rfl), ?_⟩
  (conv=>whnf)
  exact done0 rfl (.cons .tmp .nil) rfl rfl
theorem leaveMeshS (n : Net) (hn : n.Fin) (hm0 : n.Num) (dom peer : Int) (f : FrameM) (h : FrameOK f) :
    Sy.Spec Tryz.prog 178 [netSV n, intSV dom, intSV peer, frameSV f] [] (.tup [.sl 1 byteSV (meshT n dom peer f).1, intSV (meshT n dom peer f).2]) [] := contract Γ hm 100 F178 Tryz.ntmps178 rfl fun F hF => by
  have hres := meshT.eq_1 n dom peer f
  generalize meshT n dom peer f = res at *
  have hr := namesRightS n hn
  have hpS := leavePlaceS peer n.domains.length
  have hdS := leavePlaceS dom n.domains.length
  (conv=>whnf)
  refine G_box 4 8 (netSV n) rfl rfl rfl ?_
  refine G_box 7 4 (frameSV f) rfl rfl rfl ?_
  (refine rg ?_;(conv=>whnf))
  refine call0 hpS F250 rfl rfl rfl rfl rfl ?_
  cases hpl : placeB peer n.domains.length
  · rw [if_pos (.inl hpl)] at hres
    subst hres
    (refine rg ?_;(conv=>whnf);refine aT ?_;refine rg ?_;(conv=>whnf);refine aT ?_;refine rg ?_;(conv=>whnf);refine aT ?_;refine rg ?_;(conv=>whnf))
    refine G_nilsl 8 1 byteSV rfl ?_
    exact done0 rfl (.cons .tmp (.cons .tmp .nil)) rfl rfl
  (refine rg ?_;(conv=>whnf);refine aF ?_;refine rg ?_;(conv=>whnf))
  refine call0 hdS F250 rfl rfl rfl rfl rfl ?_
  cases hdl : placeB dom n.domains.length
  · rw [if_pos (.inr (.inl hdl))] at hres
    subst hres
    (refine rg ?_;(conv=>whnf);refine aT ?_;refine rg ?_;(conv=>whnf);refine aT ?_;refine rg ?_;(conv=>whnf))
    refine G_nilsl 8 1 byteSV rfl ?_
    exact done0 rfl (.cons .tmp (.cons .tmp .nil)) rfl rfl
  (refine rg ?_;(conv=>whnf);refine aF ?_;refine rg ?_;(conv=>whnf))
  refine call0 hr F67 rfl rfl rfl rfl rfl ?_
  cases hbn : netRightB n
  · rw [if_pos (.inr (.inr hbn))] at hres
    subst hres
    (refine rg ?_;(conv=>whnf);refine aT ?_;refine rg ?_;(conv=>whnf))
    refine G_nilsl 8 1 byteSV rfl ?_
    exact done0 rfl (.cons .tmp (.cons .tmp .nil)) rfl rfl
  rw [if_neg (by simp [hbn, hpl, hdl])] at hres
  have hd := placeB_dom hdl
  have hp := placeB_dom hpl
  have hd0 := hd.1
  have hkd := hd.2
  have e2 : nth n.domains dom = n.domains[dom.toNat] := nth_eq hkd
  have hpe := hn.peers _ (List.getElem_mem hkd)
  have va := vtepI_lt hm0 hbn hd
  have vb := vtepI_lt hm0 hbn hp
  have qa := leaveVtepS n hbn dom hd
  have qb := leaveVtepS n hbn peer hp
  generalize vtepI n dom = a at *
  generalize vtepI n peer = c at *
  obtain ⟨a, rfl⟩ := Int.eq_ofNat_of_zero_le va.1
  obtain ⟨c, rfl⟩ := Int.eq_ofNat_of_zero_le vb.1
  rw [Int.toNat_natCast, Int.toNat_natCast] at hres
  obtain ⟨d, hdd⟩ : ∃ d, n.domains[dom.toNat]'hkd = d := ⟨_, rfl⟩
  rw [hdd] at e2 hpe
  rw [e2] at hres
  have qc := containsS d.peers peer hpe
  have qw := vxWrapS a c d.vni f (by omega) (by omega) h
  (refine rg ?_;(conv=>whnf);refine aF ?_;refine rg ?_;(conv=>whnf))
  refine ⟨rfl, hd0, hkd, ?_⟩
  rw [hdd]
  (conv=>whnf)
  refine call0 qc F86 rfl rfl rfl rfl rfl ?_
  cases hi : inB d.peers peer
  · rw [if_pos hi] at hres
    subst hres
    (refine rg ?_;(conv=>whnf);refine aT ?_;refine rg ?_;(conv=>whnf))
    refine G_nilsl 8 1 byteSV rfl ?_
    exact done0 rfl (.cons .tmp (.cons .tmp .nil)) rfl rfl
  rw [if_neg (by rw [hi]; decide)] at hres
  subst hres
  (refine rg ?_;(conv=>whnf);refine aF ?_;refine rg ?_;(conv=>whnf))
  refine callD0 qa F254 rfl rfl rfl (by kernel_rfl) rfl ?_
  (refine rd (by kernel_rfl) ?_;(conv=>whnf))
  refine callD0 qb F254 rfl rfl rfl (by kernel_rfl) rfl ?_
  (refine rd (by kernel_rfl) ?_;(conv=>whnf))
  refine ⟨rfl, hd0, hkd, ?_⟩
  rw [hdd]
  (conv=>whnf)
  refine callD0 qw F253 rfl rfl rfl (by kernel_rfl) rfl ?_
  (refine rd (by kernel_rfl) ?_;(conv=>whnf))
  refine ⟨(by kernel_rfl), ?_⟩
  (conv=>whnf)
  exact done0 rfl (.cons .tmp (.cons .tmp .nil)) rfl rfl
end Go.Sy.YtmelpejjondedaaGreat

namespace Go.Sy.YtmelpejjondedaaGreat
open Go.Proofs
attribute [local irreducible] Go.Sy.G Go.Sy.DR
set_option maxRecDepth 100000
set_option maxHeartbeats 4000000
end Go.Sy.YtmelpejjondedaaGreat

namespace Go.Sy.YtmelpejjondedaaGreat
open Go.Proofs
attribute [local irreducible] Go.Sy.G Go.Sy.DR
set_option maxRecDepth 100000
set_option maxHeartbeats 4000000
theorem endsC1 (dst : Int) (d : Device) : Sy.Spec Tryz.prog 319 [deviceSV d, .ref 1 (u32SV dst) 0] [] (boolSV (decide (d.vtep = dst))) [] := contract Γ hm 100 F319 Tryz.ntmps319 rfl fun F hF => by
  (conv=>whnf)
  refine done0 rfl (.cons .tmp .nil) (congrArg boolSV ?_) rfl
  rw [Bool.eq_iff_iff]
  simp
theorem endsC2 (dev vni : Int) (d : Domain) : Sy.Spec Tryz.prog 320 [domainSV d, .ref 1 (intSV dev) 0, .ref 1 (intSV vni) 0] [] (boolSV (decide (d.dev = dev) && decide (d.vni = vni))) [] := contract Γ hm 100 F320 Tryz.ntmps320 rfl fun F hF => by
  (conv=>whnf)
  refine ⟨fun h => ?_, fun h => ?_⟩
  · have h1 : d.dev = dev := by simpa using h
    (refine rg ?_;(conv=>whnf))
    refine done0 rfl (.cons .tmp .nil) (congrArg boolSV ?_) rfl
    rw [decide_eq_true h1, Bool.true_and, Bool.eq_iff_iff]
    simp
  · have h1 : ¬ d.dev = dev := by simpa using h
    (refine rg ?_;(conv=>whnf))
    refine done0 rfl (.cons .tmp .nil) (congrArg boolSV ?_) rfl
    rw [decide_eq_false h1, Bool.false_and]
theorem endsC3 (n : Net) (hb : netRightB n = true) (src : Int) (k : Int) (hk : DomIn n k) : Sy.Spec Tryz.prog 322 [intSV k, .ref 8 (netSV n) 0, .ref 1 (u32SV src) 0] [] (boolSV (decide (vtepI n k = src))) [] := contract Γ hm 100 F322 Tryz.ntmps322 rfl fun F hF => by
  have q := leaveVtepS n hb k hk
  (conv=>whnf)
  refine callD0 q F254 rfl rfl rfl (by kernel_rfl) rfl ?_
  (refine rd (by kernel_rfl) ?_;(conv=>whnf))
  refine ⟨(by kernel_rfl), ?_⟩
  (conv=>whnf)
  refine done0 rfl (.cons .tmp .nil) (congrArg boolSV ?_) rfl
  rw [Bool.eq_iff_iff]
  simp
theorem endsS (n : Net) (hn : n.Fin) (hb : netRightB n = true) (src dst : Nat) (vni : Int) :
    Sy.Spec Tryz.prog 260 [netSV n, u32SV src, u32SV dst, intSV vni] [] (.tup [intSV (endsT n src dst vni).1, intSV (endsT n src dst vni).2]) [] := contract Γ hm 100 F260 Tryz.ntmps260 rfl fun F hF => by
  have hres := endsT.eq_1 n src dst vni
  dsimp only at hres
  generalize endsT n src dst vni = res at *
  have q1 := indexFuncS_Device n.devices (fun d => decide (d.vtep = (dst : Int))) 319 [] [.ref 1 (u32SV dst) 0] rfl (fun d _ => ⟨⟨_, _, F319⟩, endsC1 dst d⟩) hn.devices
  generalize idxI (fun d : Device => decide (d.vtep = (dst : Int))) n.devices = dev at *
  have q2 := indexFuncS_Domain n.domains (fun d => decide (d.dev = dev) && decide (d.vni = vni)) 320 [] [.ref 1 (intSV dev) 0, .ref 1 (intSV vni) 0] rfl (fun d _ => ⟨⟨_, _, F320⟩, endsC2 dev vni d⟩) hn.domains
  have hlt := idxI_lt (fun d : Domain => decide (d.dev = dev) && decide (d.vni = vni)) n.domains
  generalize idxI (fun d : Domain => decide (d.dev = dev) && decide (d.vni = vni)) n.domains = dom at *
  (conv=>whnf)
  refine G_box 4 8 (netSV n) rfl rfl rfl ?_
  refine G_box 5 1 (u32SV src) rfl rfl rfl ?_
  refine G_box 6 1 (u32SV dst) rfl rfl rfl ?_
  refine G_box 7 1 (intSV vni) rfl rfl rfl ?_
  (refine rg ?_;(conv=>whnf))
  refine call0 q1 F318 rfl rfl rfl rfl rfl ?_
  (refine rg ?_;(conv=>whnf))
  refine G_box 10 1 (intSV dev) rfl rfl rfl ?_
  (refine rg ?_;(conv=>whnf))
  refine call0 q2 F262 rfl rfl rfl rfl rfl ?_
  (refine rg ?_;(conv=>whnf))
  refine ⟨fun h => ?_, fun h => ?_⟩
  · rw [if_pos (.inl (of_decide_eq_true h))] at hres
    subst hres
    (refine rg ?_;(conv=>whnf);refine aT ?_;refine rg ?_;(conv=>whnf))
    exact done0 rfl (.cons .tmp (.cons .tmp .nil)) rfl rfl
  have h1 := of_decide_eq_false h
  clear h
  (refine rg ?_;(conv=>whnf))
  refine ⟨fun h => ?_, fun h => ?_⟩
  · rw [if_pos (.inr (of_decide_eq_true h))] at hres
    subst hres
    (refine rg ?_;(conv=>whnf))
    exact done0 rfl (.cons .tmp (.cons .tmp .nil)) rfl rfl
  have h2 := of_decide_eq_false h
  clear h
  rw [if_neg (fun h => h.elim h1 h2)] at hres
  have hd0 : 0 ≤ dom := by omega
  have hkd : dom.toNat < n.domains.length := by omega
  have e2 : nth n.domains dom = n.domains[dom.toNat] := nth_eq hkd
  have hpe := hn.peers _ (List.getElem_mem hkd)
  have hpin : ∀ k ∈ (n.domains[dom.toNat]'hkd).peers, DomIn n k := fun k hk => peers_in hb hkd hk
  obtain ⟨d, hdd⟩ : ∃ d, n.domains[dom.toNat]'hkd = d := ⟨_, rfl⟩
  rw [hdd] at e2 hpe hpin
  rw [e2] at hres
  have q3 := indexFuncS_Int d.peers (fun k => decide (vtepI n k = (src : Int))) 322 [] [.ref 8 (netSV n) 0, .ref 1 (u32SV src) 0] rfl (fun k hk => ⟨⟨_, _, F322⟩, endsC3 n hb src k (hpin k hk)⟩) hpe
  have hlt2 := idxI_lt (fun k : Int => decide (vtepI n k = (src : Int))) d.peers
  generalize idxI (fun k : Int => decide (vtepI n k = (src : Int))) d.peers = i at *
  (refine rg ?_;(conv=>whnf))
  refine ⟨rfl, hd0, hkd, ?_⟩
  rw [hdd]
  (conv=>whnf)
  refine call0 q3 F321 rfl rfl rfl rfl rfl ?_
  (refine rg ?_;(conv=>whnf))
  refine ⟨fun h => ?_, fun h => ?_⟩
  · rw [if_pos (of_decide_eq_true h)] at hres
    subst hres
    (refine rg ?_;(conv=>whnf))
    exact done0 rfl (.cons .tmp (.cons .tmp .nil)) rfl rfl
  have h3 := of_decide_eq_false h
  clear h
  rw [if_neg h3] at hres
  have hki : i.toNat < d.peers.length := by omega
  rw [nth_eq hki] at hres
  subst hres
  (refine rg ?_;(conv=>whnf))
  refine ⟨rfl, by omega, hki, ?_⟩
  (conv=>whnf)
  exact done0 rfl (.cons .tmp (.cons .tmp .nil)) rfl rfl
theorem leaveComeS (n : Net) (hn : n.Fin) (b : List UInt8) (hb : b.length < 100000) :
    Sy.Spec Tryz.prog 183 [netSV n, .sl 1 byteSV b] [] (.tup [intSV (comeT n b).1, intSV (comeT n b).2.1, frameSV (comeT n b).2.2.1, intSV (comeT n b).2.2.2]) [] := contract Γ hm 100 F183 Tryz.ntmps183 rfl fun F hF => by
  have hres := comeT.eq_1 n b
  generalize comeT n b = res at *
  have hr := namesRightS n hn
  (conv=>whnf)
  refine G_box 2 8 (netSV n) rfl rfl rfl ?_
  (refine rg ?_;(conv=>whnf))
  refine call0 hr F67 rfl rfl rfl rfl rfl ?_
  cases hbn : netRightB n
  · rw [if_pos hbn] at hres
    subst hres
    (refine rg ?_;(conv=>whnf);refine aT ?_;refine rg ?_;(conv=>whnf))
    refine G_boxV 6 zF rfl (.cons (.refl _) (.cons (.refl _) (.cons (.refl _) (.cons .nil .nil)))) ?_
    exact done0 rfl (.cons .tmp (.cons .tmp (.cons (.cell rfl rfl rfl rfl) (.cons .tmp .nil)))) rfl rfl
  rw [if_neg (by rw [hbn]; decide)] at hres
  have q1 := vxUnwrapS b hb
  have huo := unwrapT_ok b
  generalize unwrapT b = u at *
  obtain ⟨src, dst, vni, f, e⟩ := u
  dsimp only at hres q1 huo
  have hsrc := huo.2.2.2.src
  (refine rg ?_;(conv=>whnf);refine aF ?_;refine rg ?_;(conv=>whnf))
  refine call0 q1 F259 rfl rfl rfl rfl rfl ?_
  (refine rg ?_;(conv=>whnf))
  refine ⟨fun h => ?_, fun h => ?_⟩
  · rw [if_pos (by simpa using h)] at hres
    subst hres
    (refine rg ?_;(conv=>whnf))
    refine G_boxV 6 zF rfl (.cons (.refl _) (.cons (.refl _) (.cons (.refl _) (.cons .nil .nil)))) ?_
    exact done0 rfl (.cons .tmp (.cons .tmp (.cons (.cell rfl rfl rfl rfl) (.cons .tmp .nil)))) rfl rfl
  rw [if_neg (by simpa using h)] at hres
  clear h
  have q2 := endsS n hn hbn src dst vni
  generalize endsT n src dst vni = en at *
  obtain ⟨fr, dom⟩ := en
  dsimp only at hres q2
  (refine rg ?_;(conv=>whnf))
  refine call0 q2 F260 rfl rfl rfl rfl rfl ?_
  (refine rg ?_;(conv=>whnf))
  refine ⟨fun h => ?_, fun h => ?_⟩
  · rw [if_pos (of_decide_eq_true h)] at hres
    subst hres
    (refine rg ?_;(conv=>whnf))
    refine G_boxV 6 zF rfl (.cons (.refl _) (.cons (.refl _) (.cons (.refl _) (.cons .nil .nil)))) ?_
    exact done0 rfl (.cons .tmp (.cons .tmp (.cons (.cell rfl rfl rfl rfl) (.cons .tmp .nil)))) rfl rfl
  rw [if_neg (of_decide_eq_false h)] at hres
  clear h
  have qg := macGroupS f.src (by omega)
  (refine rg ?_;(conv=>whnf))
  refine call0 qg F162 rfl rfl rfl rfl rfl ?_
  cases hg : groupB f.src
  rotate_left
  · rw [if_pos hg] at hres
    subst hres
    (refine rg ?_;(conv=>whnf);refine aT ?_;refine rg ?_;(conv=>whnf))
    refine G_boxV 6 zF rfl (.cons (.refl _) (.cons (.refl _) (.cons (.refl _) (.cons .nil .nil)))) ?_
    exact done0 rfl (.cons .tmp (.cons .tmp (.cons (.cell rfl rfl rfl rfl) (.cons .tmp .nil)))) rfl rfl
  rw [if_neg (by rw [hg]; decide)] at hres
  subst hres
  (refine rg ?_;(conv=>whnf);refine aF ?_;refine rg ?_;(conv=>whnf))
  refine ⟨(by kernel_rfl), ?_⟩
  (conv=>whnf)
  exact done0 rfl (.cons .tmp (.cons .tmp (.cons (.cell rfl rfl rfl rfl) (.cons .tmp .nil)))) rfl rfl
end Go.Sy.YtmelpejjondedaaGreat

namespace Go.Sy.YtmelpejjondedaaGreat
open Go.Proofs
attribute [local irreducible] Go.Sy.G Go.Sy.DR
set_option maxRecDepth 100000
set_option maxHeartbeats 4000000
end Go.Sy.YtmelpejjondedaaGreat

namespace Go.Sy.YtmelpejjondedaaGreat
open Go.Proofs
set_option maxRecDepth 20000
set_option maxHeartbeats 4000000
end Go.Sy.YtmelpejjondedaaGreat

namespace Go.Sy.YtmelpejjondedaaGreat
open Go.Proofs
attribute [local irreducible] Go.Sy.G Go.Sy.DR
set_option maxRecDepth 20000
set_option maxHeartbeats 8000000
end Go.Sy.YtmelpejjondedaaGreat

namespace Go.Sy.YtmelpejjondedaaGreat
open Go.Proofs
attribute [local irreducible] Go.Sy.G Go.Sy.DR
set_option maxRecDepth 20000
set_option maxHeartbeats 8000000
end Go.Sy.YtmelpejjondedaaGreat

namespace Go.Sy.YtmelpejjondedaaGreat
open Go.Proofs
attribute [local irreducible] Go.Sy.G Go.Sy.DR
set_option maxRecDepth 100000
set_option maxHeartbeats 4000000
theorem dom_irb {n : Net} (hb : netRightB n = true) {d : Int} (hd : DomIn n d) (hi : 0 ≤ (n.domains[d.toNat]'hd.2).irb) :
    ∃ h : (n.domains[d.toNat]'hd.2).irb.toNat < n.irbs.length, (n.irbs[(n.domains[d.toNat]'hd.2).irb.toNat]'h).domain = d := by
  simp only [netRightB, Bool.and_eq_true] at hb
  have := allB_iff.1 hb.1.1.1.1.1.1.1.2 _ hd.2
  simp only [bareB, Bool.and_eq_true, Bool.or_eq_true, beq_iff_eq] at this
  have h2 := this.1.2
  rcases h2 with h2 | ⟨h2, h3⟩
  · omega
  · have h4 := placeB_in2 h2
    have h5 : (n.domains[d.toNat]'hd.2).irb.toNat < n.irbs.length := by omega
    rw [nth_eq h5] at h3
    have := hd.1
    exact ⟨h5, by omega⟩
theorem vrfsRouterS (n : Net) (hn : n.Fin) (hm0 : n.Num) (dom : Int) (m : Nat) :
    Sy.Spec Tryz.prog 173 [netSV n, intSV dom, u64SV m] [] (.tup [intSV (routerT n dom m).1, boolSV (routerT n dom m).2]) [] := contract Γ hm 100 F173 Tryz.ntmps173 rfl fun F hF => by
  have hres := routerT.eq_1 n dom m
  generalize routerT n dom m = res at *
  have hr := namesRightS n hn
  (conv=>whnf)
  refine ⟨fun h => ?_, fun h => ?_⟩
  · have hp : placeB dom n.domains.length = false := by
      cases hx : placeB dom n.domains.length
      · rfl
      · have := placeB_in2 hx; have := of_decide_eq_true h; omega
    rw [if_pos (.inl hp)] at hres
    subst hres
    (refine rg ?_;(conv=>whnf);refine aT ?_;refine rg ?_;(conv=>whnf);refine aT ?_;refine rg ?_;(conv=>whnf))
    exact done0 rfl (.cons .tmp (.cons .tmp .nil)) rfl rfl
  have h0 : 0 ≤ dom := by have := of_decide_eq_false h; omega
  clear h
  (refine rg ?_;(conv=>whnf))
  refine ⟨fun h => ?_, fun h => ?_⟩
  · have hp : placeB dom n.domains.length = false := by
      cases hx : placeB dom n.domains.length
      · rfl
      · have := placeB_in2 hx; have := of_decide_eq_true h; omega
    rw [if_pos (.inl hp)] at hres
    subst hres
    (refine rg ?_;(conv=>whnf);refine aT ?_;refine rg ?_;(conv=>whnf))
    exact done0 rfl (.cons .tmp (.cons .tmp .nil)) rfl rfl
  have h1 : dom < n.domains.length := by have := of_decide_eq_false h; omega
  clear h
  have hpl : placeB dom n.domains.length = true := placeB_true ⟨h0, h1⟩
  (refine rg ?_;(conv=>whnf))
  refine call0 hr F67 rfl rfl rfl rfl rfl ?_
  cases hbn : netRightB n
  · rw [if_pos (.inr hbn)] at hres
    subst hres
    (refine rg ?_;(conv=>whnf);refine aT ?_;refine rg ?_;(conv=>whnf))
    exact done0 rfl (.cons .tmp (.cons .tmp .nil)) rfl rfl
  rw [if_neg (by simp [hbn, hpl])] at hres
  have hd := placeB_dom hpl
  have e2 : nth n.domains dom = n.domains[dom.toNat]'hd.2 := nth_eq hd.2
  have hir := dom_irb hbn hd
  obtain ⟨d, hdd⟩ : ∃ d, n.domains[dom.toNat]'hd.2 = d := ⟨_, rfl⟩
  simp only [hdd] at e2 hir
  rw [e2] at hres
  (refine rg ?_;(conv=>whnf);refine aF ?_;refine rg ?_;(conv=>whnf))
  refine ⟨rfl, hd.1, hd.2, ?_⟩
  rw [hdd]
  (conv=>whnf)
  refine ⟨fun h => ?_, fun h => ?_⟩
  · rw [if_pos (.inl (of_decide_eq_true h))] at hres
    subst hres
    (refine rg ?_;(conv=>whnf);refine aT ?_;refine rg ?_;(conv=>whnf))
    exact done0 rfl (.cons .tmp (.cons .tmp .nil)) rfl rfl
  have hi0 : 0 ≤ d.irb := by have := of_decide_eq_false h; omega
  clear h
  obtain ⟨hi1, hi2⟩ := hir hi0
  have ha := hm0.addr _ (List.getElem_mem hi1)
  rw [nth_eq hi1] at hres
  obtain ⟨x, hx⟩ : ∃ x, n.irbs[d.irb.toNat]'hi1 = x := ⟨_, rfl⟩
  rw [hx] at ha hres
  obtain ⟨a, hae⟩ := Int.eq_ofNat_of_zero_le ha.1
  have qh := hostS a (by omega)
  rw [← hae] at qh
  (refine rg ?_;(conv=>whnf))
  refine ⟨rfl, hi0, hi1, ?_⟩
  rw [hx]
  (conv=>whnf)
  refine call0 qh F244 rfl rfl rfl rfl rfl ?_
  (refine rg ?_;(conv=>whnf))
  refine ⟨fun h => ?_, fun h => ?_⟩
  · have hne : hostN x.addr ≠ m := fun e => by
      rw [e] at h
      simp at h
    rw [if_pos (.inr hne)] at hres
    subst hres
    (refine rg ?_;(conv=>whnf))
    exact done0 rfl (.cons .tmp (.cons .tmp .nil)) rfl rfl
  · have heq : hostN x.addr = m := by
      have : (hostN x.addr : Int) = (m : Int) := by simpa using h
      omega
    rw [if_neg (fun h => h.elim (by omega) (fun h2 => h2 heq))] at hres
    subst hres
    (refine rg ?_;(conv=>whnf))
    exact done0 rfl (.cons .tmp (.cons .tmp .nil)) rfl rfl
end Go.Sy.YtmelpejjondedaaGreat

namespace Go.Sy.YtmelpejjondedaaGreat
open Go.Proofs
attribute [local irreducible] Go.Sy.G Go.Sy.DR
set_option maxRecDepth 100000
set_option maxHeartbeats 4000000
theorem placeB_inIrbs {n : Net} {i : Int} (h : placeB i n.irbs.length = true) : InIrbs n i := by
  have := placeB_in2 h
  exact ⟨this.1, by omega⟩
theorem hopP_ok {p : PacketM} (h : PacketOK p) : PacketOK (hopP p) := ⟨h.tos, h.id, by have := h.ttl; show p.ttl - 1 ≤ 255; omega, h.proto, h.src, h.dst⟩
theorem ipPutT_hop (p : PacketM) : ipPutT (hopP p) = if 1480 < p.body.length then ([], 14) else (ipBy (hopP p), 0) := rfl
theorem routeHopS (n : Net) (hn : n.Fin) (hm0 : n.Num) (irb : Int) (f : FrameM) (hf : FrameOK f) :
    Sy.Spec Tryz.prog 174 [netSV n, intSV irb, frameSV f] [] (.tup [intSV (hopT n irb f).1, frameSV (hopT n irb f).2.1, intSV (hopT n irb f).2.2]) [] := contract Γ hm 100 F174 Tryz.ntmps174 rfl fun F hF => by
  have hres := hopT.eq_1 n irb f
  generalize hopT n irb f = res at *
  have hr := namesRightS n hn
  have hb := hf.body
  (conv=>whnf)
  refine ⟨fun h => ?_, fun h => ?_⟩
  · have hp : placeB irb n.irbs.length = false := by
      cases hx : placeB irb n.irbs.length
      · rfl
      · have := placeB_in2 hx; have := of_decide_eq_true h; omega
    rw [if_pos (.inl hp)] at hres
    subst hres
    (refine rg ?_;(conv=>whnf);refine aT ?_;refine rg ?_;(conv=>whnf);refine aT ?_;refine rg ?_;(conv=>whnf))
    refine G_boxV 7 zF rfl (.cons (.refl _) (.cons (.refl _) (.cons (.refl _) (.cons .nil .nil)))) ?_
    exact done0 rfl (.cons .tmp (.cons (.cell rfl rfl rfl rfl) (.cons .tmp .nil))) rfl rfl
  have h0 : 0 ≤ irb := by have := of_decide_eq_false h; omega
  clear h
  (refine rg ?_;(conv=>whnf))
  refine ⟨fun h => ?_, fun h => ?_⟩
  · have hp : placeB irb n.irbs.length = false := by
      cases hx : placeB irb n.irbs.length
      · rfl
      · have := placeB_in2 hx; have := of_decide_eq_true h; omega
    rw [if_pos (.inl hp)] at hres
    subst hres
    (refine rg ?_;(conv=>whnf);refine aT ?_;refine rg ?_;(conv=>whnf))
    refine G_boxV 7 zF rfl (.cons (.refl _) (.cons (.refl _) (.cons (.refl _) (.cons .nil .nil)))) ?_
    exact done0 rfl (.cons .tmp (.cons (.cell rfl rfl rfl rfl) (.cons .tmp .nil))) rfl rfl
  have h1 : irb < n.irbs.length := by have := of_decide_eq_false h; omega
  clear h
  have hpl : placeB irb n.irbs.length = true := placeB_true ⟨h0, h1⟩
  (refine rg ?_;(conv=>whnf))
  refine call0 hr F67 rfl rfl rfl rfl rfl ?_
  cases hbn : netRightB n
  · rw [if_pos (.inr hbn)] at hres
    subst hres
    (refine rg ?_;(conv=>whnf);refine aT ?_;refine rg ?_;(conv=>whnf))
    refine G_boxV 7 zF rfl (.cons (.refl _) (.cons (.refl _) (.cons (.refl _) (.cons .nil .nil)))) ?_
    exact done0 rfl (.cons .tmp (.cons (.cell rfl rfl rfl rfl) (.cons .tmp .nil))) rfl rfl
  rw [if_neg (by simp [hbn, hpl])] at hres
  refine G_box 3 8 (netSV n) rfl rfl rfl ?_
  refine G_box 5 4 (frameSV f) rfl rfl rfl ?_
  (refine rg ?_;(conv=>whnf);refine aF ?_;refine rg ?_;(conv=>whnf))
  refine ⟨fun h => ?_, fun h => ?_⟩
  · rw [if_pos (by have : ¬ (f.typ : Int) = 2048 := by simpa using h
                   omega)] at hres
    subst hres
    (refine rg ?_;(conv=>whnf))
    refine G_boxV 7 zF rfl (.cons (.refl _) (.cons (.refl _) (.cons (.refl _) (.cons .nil .nil)))) ?_
    exact done0 rfl (.cons .tmp (.cons (.cell rfl rfl rfl rfl) (.cons .tmp .nil))) rfl rfl
  rw [if_neg (by have : (f.typ : Int) = 2048 := by simpa using h
                 omega)] at hres
  clear h
  have q1 := ipTakeS f.body (by omega)
  have hok := @ipTakeT_ok f.body
  generalize ipTakeT f.body = tk at *
  obtain ⟨p, e⟩ := tk
  dsimp only at hres q1 hok
  (refine rg ?_;(conv=>whnf))
  refine call0 q1 F245 rfl rfl rfl rfl rfl ?_
  (refine rg ?_;(conv=>whnf))
  by_cases he : e = 0
  rotate_left
  · rw [if_pos he] at hres
    subst hres
    refine ⟨fun h => absurd (show e = 0 by simpa using h) he, fun _ => ?_⟩
    (refine rg ?_;(conv=>whnf))
    refine ⟨fun _ => ?_, fun h => absurd (show e = 0 by simpa using h) he⟩
    (refine rg ?_;(conv=>whnf))
    refine G_boxV 7 zF rfl (.cons (.refl _) (.cons (.refl _) (.cons (.refl _) (.cons .nil .nil)))) ?_
    exact done0 rfl (.cons .tmp (.cons (.cell rfl rfl rfl rfl) (.cons .tmp .nil))) rfl rfl
  subst he
  rw [if_neg (by simp)] at hres
  obtain ⟨hpo, hpb⟩ := hok rfl
  have hpt := hpo.ttl
  have hpd := hpo.dst
  have q2 := ipHopS p (by omega) hpt
  (refine ⟨fun _ => ?_, fun h => False.elim (absurd h (by decide))⟩;refine rg ?_;(conv=>whnf))
  by_cases ht : p.ttl ≤ 1
  · rw [if_pos ht] at hres
    subst hres
    rw [hop1, if_pos ht] at q2
    refine call0 q2 F246 rfl rfl rfl rfl rfl ?_
    (refine rg ?_;(conv=>whnf);refine aT ?_;refine rg ?_;(conv=>whnf))
    refine G_boxV 7 zF rfl (.cons (.refl _) (.cons (.refl _) (.cons (.refl _) (.cons .nil .nil)))) ?_
    exact done0 rfl (.cons .tmp (.cons (.cell rfl rfl rfl rfl) (.cons .tmp .nil))) rfl rfl
  rw [if_neg ht] at hres
  rw [hop1, if_neg ht] at q2
  refine call0 q2 F246 rfl rfl rfl rfl rfl ?_
  have q3 := lookupS n hn hbn irb p.dst (placeB_inIrbs hpl)
  have hth := fun h => @lookT_there n irb p.dst h
  generalize lookT n irb p.dst = lk at *
  obtain ⟨to, ok⟩ := lk
  dsimp only at hres q3 hth
  (refine rg ?_;(conv=>whnf);refine aF ?_;refine rg ?_;(conv=>whnf))
  refine call0 q3 F247 rfl rfl rfl rfl rfl ?_
  cases ok
  · rw [if_pos rfl] at hres
    subst hres
    (refine rg ?_;(conv=>whnf);refine aT ?_;refine rg ?_;(conv=>whnf))
    refine G_boxV 7 zF rfl (.cons (.refl _) (.cons (.refl _) (.cons (.refl _) (.cons .nil .nil)))) ?_
    exact done0 rfl (.cons .tmp (.cons (.cell rfl rfl rfl rfl) (.cons .tmp .nil))) rfl rfl
  rw [if_neg (by decide)] at hres
  have hto := hth rfl
  have hpp := ipPutT_hop p
  have q4 := ipPut2S (hopP p) (hopP_ok hpo) (by show p.body.length < 100000; omega)
  rw [hpp] at q4
  clear hpp
  by_cases hl : 1480 < p.body.length
  · rw [if_pos hl] at hres q4
    subst hres
    (refine rg ?_;(conv=>whnf);refine aF ?_;refine rg ?_;(conv=>whnf))
    refine call0 q4 F248 rfl rfl rfl rfl rfl ?_
    (refine rg ?_;(conv=>whnf);refine aT ?_;refine rg ?_;(conv=>whnf))
    refine G_boxV 7 zF rfl (.cons (.refl _) (.cons (.refl _) (.cons (.refl _) (.cons .nil .nil)))) ?_
    exact done0 rfl (.cons .tmp (.cons (.cell rfl rfl rfl rfl) (.cons .tmp .nil))) rfl rfl
  rw [if_neg hl] at hres q4
  have ha := hm0.addr _ (List.getElem_mem hto.2)
  rw [nth_eq hto.2] at hres
  obtain ⟨x, hx⟩ : ∃ x, n.irbs[to.toNat]'hto.2 = x := ⟨_, rfl⟩
  rw [hx] at ha hres
  obtain ⟨a, hae⟩ := Int.eq_ofNat_of_zero_le ha.1
  have qh := hostS a (by omega)
  rw [← hae] at qh
  have qd := hostS p.dst hpd
  subst hres
  (refine rg ?_;(conv=>whnf);refine aF ?_;refine rg ?_;(conv=>whnf))
  refine call0 q4 F248 rfl rfl rfl rfl rfl ?_
  (refine rg ?_;(conv=>whnf);refine aF ?_;refine rg ?_;(conv=>whnf))
  refine ⟨rfl, hto.1, hto.2, ?_⟩
  rw [hx]
  (conv=>whnf)
  refine callD0 qd F244 rfl rfl rfl (by kernel_rfl) rfl ?_
  (refine rd (by kernel_rfl) ?_;(conv=>whnf))
  refine ⟨rfl, hto.1, hto.2, ?_⟩
  rw [hx]
  (conv=>whnf)
  refine callD0 qh F244 rfl rfl rfl (by kernel_rfl) rfl ?_
  (refine rd (by kernel_rfl) ?_;(conv=>whnf))
  refine ⟨(by kernel_rfl), ?_⟩
  (conv=>whnf)
  exact done0 rfl (.cons .tmp (.cons (.cell rfl rfl rfl rfl) (.cons .tmp .nil))) rfl rfl
end Go.Sy.YtmelpejjondedaaGreat

namespace Go.Sy.YtmelpejjondedaaGreat
open Go.Proofs
attribute [local irreducible] Go.Sy.G Go.Sy.DR
set_option maxRecDepth 100000
set_option maxHeartbeats 4000000
theorem etherCopyS (f : FrameM) (hb : f.body.length < 100000) : Sy.Spec Tryz.prog 261 [frameSV f] [] (frameSV f) [] := contract Γ hm 100 F261 Tryz.ntmps261 rfl fun F hF => by
  (conv=>whnf)
  refine stepOp (good_makeSlice Γ.toTy (d := 7) (n := f.body.length) byteSV 0 rfl rfl rfl rfl rfl rfl rfl rfl (by omega) (by omega) rfl rfl rfl) rfl rfl ?_
  (refine rg ?_;(conv=>whnf))
  refine stepOp (good_copy Γ.toTy (l := List.replicate f.body.length 0) (m := f.body) rfl rfl rfl rfl rfl .sl) rfl rfl ?_
  (refine rg ?_;(conv=>whnf))
  refine G_data 7 rfl ?_
  (refine rg ?_;(conv=>whnf))
  refine done0 rfl (.cons (.cell rfl rfl rfl rfl) .nil) ?_ rfl
  show SV.agg [_, _, _, .sl 1 byteSV f.body] = SV.agg [_, _, _, .sl 1 byteSV (f.body.take (List.replicate f.body.length (0 : UInt8)).length ++ (List.replicate f.body.length (0 : UInt8)).drop f.body.length)]
  have e : f.body.take (List.replicate f.body.length (0 : UInt8)).length ++ (List.replicate f.body.length (0 : UInt8)).drop f.body.length = f.body := by
    rw [List.length_replicate, List.take_length, List.drop_eq_nil_of_le (by simp), List.append_nil]
  rw [e]
  rfl
theorem copiedS (q : QueuedM) (hb : q.frame.body.length < 100000) : Sy.Spec Tryz.prog 185 [queuedSV q] [] (queuedSV q) [] := contract Γ hm 100 F185 Tryz.ntmps185 rfl fun F hF => by
  have qc := etherCopyS q.frame hb
  (conv=>whnf)
  refine call0 qc F261 rfl rfl rfl rfl rfl ?_
  (refine rg ?_;(conv=>whnf))
  exact done0 rfl (.cons (.cell rfl rfl rfl rfl) .nil) rfl rfl
def BodiesOK (l : List QueuedM) : Prop := ∀ q ∈ l, q.frame.body.length < 100000
theorem allS (l : List QueuedM) (hl : l.length < 1000000) (hb : BodiesOK l) : Sy.Spec Tryz.prog 184 [.sl 7 queuedSV l] [] (.osl 0) [(0, .row 7 queuedSV l)] := contract Γ hm 100 F184 Tryz.ntmps184 rfl fun F hF => by
  (conv=>whnf)
  refine G_adopt 3 1000 7 queuedSV rfl rfl ?_
  refine G_count l.length (fun j => [(3, .osl 1000), (6, .sl 7 queuedSV l), (7, intSV l.length), (8, intSV j)]) (fun j => [(1000, .row 7 queuedSV (l.take j))]) [] ⟨⟨rfl, rfl, rfl, rfl, rfl, rfl, rfl, rfl, trivial⟩, ⟨.inl rfl, rfl, trivial⟩, rfl, rfl⟩ ?_
  intro j hj
  (refine rg ?_;(conv=>whnf))
  refine ⟨fun h => ?_, fun h => ?_⟩
  · have hlt : j < l.length := by have := of_decide_eq_true h; omega
    have hj0 : ((j : Nat) : Int).toNat < l.length := by simpa using hlt
    obtain ⟨q, hq⟩ : ∃ q, l[j] = q := ⟨_, rfl⟩
    have e1 : l[((j : Nat) : Int).toNat]'hj0 = q := hq
    have hs : l.take (j + 1) = l.take j ++ [q] := by rw [List.take_succ_eq_append_getElem hlt, hq]
    have hqb := hb q (by rw [← hq]; exact List.getElem_mem hlt)
    have hll : (l.take j).length = j := by rw [List.length_take]; omega
    clear h
    (refine rg ?_;(conv=>whnf))
    refine ⟨rfl, by omega, hj0, ?_⟩
    rw [e1]
    (conv=>whnf)
    refine call0 (copiedS q hqb) F185 rfl rfl rfl rfl rfl ?_
    (refine rg ?_;(conv=>whnf))
    refine stepOp (good_appendT Γ.toTy 16 rfl rfl rfl rfl rfl (.row rfl) (.lit (e := queuedSV) (l := [q]) rfl rfl) (by simp) (by rw [hll]; simp; omega) (by rw [hll]; simp; omega)) rfl rfl ?_
    (refine rg ?_;(conv=>whnf))
    refine ⟨by unfold I64; omega, ?_⟩
    (conv=>whnf)
    exact G_next [(1000, 16)] hlt ⟨⟨rfl, rfl, rfl, rfl, rfl, rfl, rfl, rfl, trivial⟩, ⟨.inl (congrArg (Ob.row 7 queuedSV) hs), rfl, trivial⟩, rfl, rfl⟩
  · have hjj : j = l.length := by have := of_decide_eq_false h; omega
    subst hjj
    rw [List.take_length]
    (refine rg ?_;(conv=>whnf))
    exact done rfl (.cons .tmp .nil) [(0, 1000)] [(0, .row 7 queuedSV l)] (fun _ h => h) rfl rfl ⟨trivial, ⟨.inl rfl, rfl, trivial⟩, rfl, rfl⟩
theorem queuePushS2 (l : List QueuedM) (q : QueuedM) (hl : l.length < 1000000) (hb : BodiesOK l) (hqb : q.frame.body.length < 100000) :
    Sy.Spec Tryz.prog 170 [.sl 7 queuedSV l, queuedSV q] [] (.tup [.sl 7 queuedSV (pushT l q).1, boolSV (pushT l q).2]) [] := contract Γ hm 100 F170 Tryz.ntmps170 rfl fun F hF => by
  have hres := pushT.eq_1 l q
  generalize pushT l q = res at *
  (conv=>whnf)
  refine stepOp (good_call [(0, 55)] rfl F184 (allS l hl hb) rfl trivial rfl ⟨.inr rfl, trivial⟩) rfl rfl ?_
  (refine rg ?_;(conv=>whnf))
  refine ⟨fun h => ?_, fun h => ?_⟩
  · rw [if_pos (by have := of_decide_eq_true h; omega)] at hres
    subst hres
    (refine rg ?_;(conv=>whnf))
    refine G_data 55 rfl ?_
    exact done0 rfl (.cons .tmp (.cons .tmp .nil)) rfl rfl
  · rw [if_neg (by have := of_decide_eq_false h; omega)] at hres
    subst hres
    (refine rg ?_;(conv=>whnf))
    refine call0 (copiedS q hqb) F185 rfl rfl rfl rfl rfl ?_
    (refine rg ?_;(conv=>whnf))
    refine stepOp (good_appendT Γ.toTy 17 rfl rfl rfl rfl rfl (.row rfl) (.lit (e := queuedSV) (l := [q]) rfl rfl) (by decide) (by simp; omega) (by simp; omega)) rfl rfl ?_
    refine G_data 17 rfl ?_
    (refine rg ?_;(conv=>whnf))
    exact done0 rfl (.cons .tmp (.cons .tmp .nil)) rfl rfl
end Go.Sy.YtmelpejjondedaaGreat

namespace Go.Sy.YtmelpejjondedaaGreat
open Go.Proofs
attribute [local irreducible] Go.Sy.G Go.Sy.DR
set_option maxRecDepth 100000
set_option maxHeartbeats 4000000
theorem queueTakeS (l : List QueuedM) (at_ : Int) (hl : l.length < 1000000) (hb : BodiesOK l) :
    Sy.Spec Tryz.prog 106 [.sl 7 queuedSV l, intSV at_] [] (.tup [queuedSV (takeT l at_).1, .sl 7 queuedSV (takeT l at_).2.1, boolSV (takeT l at_).2.2]) [] := contract Γ hm 100 F106 Tryz.ntmps106 rfl fun F hF => by
  have hres := takeT.eq_1 l at_
  generalize takeT l at_ = res at *
  (conv=>whnf)
  refine ⟨fun h => ?_, fun h => ?_⟩
  · rw [if_pos (.inl (of_decide_eq_true h))] at hres
    subst hres
    (refine rg ?_;(conv=>whnf);refine aT ?_;refine rg ?_;(conv=>whnf))
    refine stepOp (good_call [(0, 55)] rfl F184 (allS l hl hb) rfl trivial rfl ⟨.inr rfl, trivial⟩) rfl rfl ?_
    refine G_data 55 rfl ?_
    (refine rg ?_;(conv=>whnf))
    refine G_boxV 4 [intSV 0, intSV 0, intSV 0, u64SV 0, u64SV 0, intSV 0, .sl 1 byteSV []] rfl (.cons (.refl _) (.cons (.refl _) (.cons (.refl _) (.cons (.refl _) (.cons (.refl _) (.cons (.refl _) (.cons .nil .nil))))))) ?_
    exact done0 rfl (.cons (.cell rfl rfl rfl rfl) (.cons .tmp (.cons .tmp .nil))) rfl rfl
  have h0 : 0 ≤ at_ := by have := of_decide_eq_false h; omega
  clear h
  (refine rg ?_;(conv=>whnf))
  refine ⟨fun h => ?_, fun h => ?_⟩
  · rw [if_pos (.inr (of_decide_eq_true h))] at hres
    subst hres
    (refine rg ?_;(conv=>whnf))
    refine stepOp (good_call [(0, 55)] rfl F184 (allS l hl hb) rfl trivial rfl ⟨.inr rfl, trivial⟩) rfl rfl ?_
    refine G_data 55 rfl ?_
    (refine rg ?_;(conv=>whnf))
    refine G_boxV 4 [intSV 0, intSV 0, intSV 0, u64SV 0, u64SV 0, intSV 0, .sl 1 byteSV []] rfl (.cons (.refl _) (.cons (.refl _) (.cons (.refl _) (.cons (.refl _) (.cons (.refl _) (.cons (.refl _) (.cons .nil .nil))))))) ?_
    exact done0 rfl (.cons (.cell rfl rfl rfl rfl) (.cons .tmp (.cons .tmp .nil))) rfl rfl
  have h1 : at_ < l.length := by have := of_decide_eq_false h; omega
  clear h
  have hk : at_.toNat < l.length := by omega
  have hne : l ≠ [] := fun e => by rw [e] at hk; simp at hk
  have hkk : ((at_.toNat : Nat) : Int) = at_ := by omega
  rw [if_neg (by omega), List.getElem?_eq_getElem hk, Option.getD_some] at hres
  obtain ⟨q, hq⟩ : ∃ q, l[at_.toNat]'hk = q := ⟨_, rfl⟩
  rw [hq] at hres
  have hqb := hb q (by rw [← hq]; exact List.getElem_mem hk)
  refine G_dat 0 90 rfl hne ?_
  intro B off cap hcap
  refine run Γ hm 3 ?_
  (conv => whnf)
  refine stepD (good_move_d 90 (.inl rfl) rfl rfl) (by kernel_rfl) rfl ?_
  (refine rd (by kernel_rfl) ?_;(conv=>whnf))
  refine ⟨rfl, h0, hk, ?_⟩
  rw [hq]
  (conv=>whnf)
  refine callD0 (copiedS q hqb) F185 rfl rfl rfl (by kernel_rfl) rfl ?_
  (refine rd (by kernel_rfl) ?_;(conv=>whnf))
  refine stepD (good_slice3_d (hi := at_.toNat) Γ.toTy rfl rfl rfl rfl (congrArg (fun z => SV.val (.int .i64 z)) hkk.symm) (congrArg (fun z => SV.val (.int .i64 z)) hkk.symm) (by omega)) (by kernel_rfl) rfl ?_
  refine stepD (good_move_d 90 (.inl rfl) rfl rfl) (by kernel_rfl) rfl ?_
  (refine rd (by kernel_rfl) ?_;(conv=>whnf))
  refine ⟨by unfold I64; omega, ?_⟩
  (conv=>whnf)
  refine stepD (good_slice_sl (lo := at_.toNat + 1) (hi := l.length) Γ.toTy rfl rfl rfl rfl (.inr ⟨_, _, rfl, congrArg (fun z => SV.val (.int .i64 z)) (by omega)⟩) (.inl ⟨rfl, rfl⟩) (by omega) (Nat.le_refl _)) (by kernel_rfl) rfl ?_
  have hll : ((l.take l.length).drop (at_.toNat + 1)).length = l.length - (at_.toNat + 1) := by rw [List.length_drop, List.length_take]; omega
  refine stepD (good_append_d Γ.toTy 90 rfl rfl rfl rfl rfl rfl (Nat.le_of_lt hk) rfl (by rw [hll]; omega) (by rw [hll]; omega)) (by kernel_rfl) rfl ?_
  have he : l.take at_.toNat ++ (l.take l.length).drop (at_.toNat + 1) = l.eraseIdx at_.toNat := by rw [List.take_length, List.eraseIdx_eq_take_drop_succ]
  have hel : (l.take at_.toNat ++ (l.take l.length).drop (at_.toNat + 1)).length < 1000000 := by rw [he, List.length_eraseIdx]; split <;> omega
  have heb : BodiesOK (l.take at_.toNat ++ (l.take l.length).drop (at_.toNat + 1)) := by rw [he]; exact fun x hx => hb x (List.mem_of_mem_eraseIdx hx)
  (refine rd (by kernel_rfl) ?_;(conv=>whnf))
  refine stepD (good_call [(0, 55)] rfl F184 (allS _ hel heb) rfl trivial rfl ⟨.inr rfl, trivial⟩) (by kernel_rfl) rfl ?_
  (refine rd (by kernel_rfl) ?_;(conv=>whnf))
  refine ⟨(by kernel_rfl), ?_⟩
  (conv=>whnf)
  refine G_data 55 rfl ?_
  refine done0 rfl (.cons (.cell rfl rfl rfl rfl) (.cons .tmp (.cons .tmp .nil))) ?_ rfl
  subst hres
  show SV.tup [_, .sl 7 queuedSV (l.eraseIdx at_.toNat), _] = SV.tup [_, .sl 7 queuedSV (l.take at_.toNat ++ (l.take l.length).drop (at_.toNat + 1)), _]
  rw [he]
  rfl
end Go.Sy.YtmelpejjondedaaGreat

namespace Go.Sy.YtmelpejjondedaaGreat
open Go.Proofs
attribute [local irreducible] Go.Sy.G Go.Sy.DR
set_option maxRecDepth 100000
set_option maxHeartbeats 4000000
def cntK {α : Type} (q : α → Bool) (l : List α) : Nat → Nat
  | 0 => 0
  | j + 1 => match l[j]? with
    | some x => if q x = true then cntK q l j + 1 else cntK q l j
    | none => cntK q l j
def dfC {α : Type} (q : α → Bool) (l : List α) : Nat → List α
  | 0 => l
  | j + 1 => match l[j]? with
    | some x => if q x = true then (dfC q l j).set (cntK q l j) x else dfC q l j
    | none => dfC q l j
theorem cntK_le {α : Type} (q : α → Bool) (l : List α) (j : Nat) : cntK q l j ≤ j := by
  induction j with
  | zero => exact Nat.le_refl _
  | succ j ih =>
    simp only [cntK]
    split
    · split <;> omega
    · omega
theorem dfC_length {α : Type} (q : α → Bool) (l : List α) (j : Nat) : (dfC q l j).length = l.length := by
  induction j with
  | zero => rfl
  | succ j ih =>
    simp only [dfC]
    split
    · split
      · rw [List.length_set]; exact ih
      · exact ih
    · exact ih
theorem dfC_get {α : Type} (q : α → Bool) (l : List α) (j k : Nat) (h : j ≤ k) : (dfC q l j)[k]? = l[k]? := by
  induction j with
  | zero => rfl
  | succ j ih =>
    simp only [dfC]
    split
    · split
      · rw [List.getElem?_set_ne (by have := cntK_le q l j; omega)]; exact ih (by omega)
      · exact ih (by omega)
    · exact ih (by omega)
theorem dfC_take {α : Type} (q : α → Bool) (l : List α) (j : Nat) (h : j ≤ l.length) : (dfC q l j).take (cntK q l j) = (l.take j).filter q := by
  induction j with
  | zero => rfl
  | succ j ih =>
    have hj : j < l.length := by omega
    have ih := ih (by omega)
    have hc := cntK_le q l j
    simp only [dfC, cntK, List.getElem?_eq_getElem hj]
    rw [List.take_add_one, List.getElem?_eq_getElem hj, List.filter_append]
    by_cases hq : q l[j] = true
    · rw [if_pos hq, if_pos hq]
      have hlt : cntK q l j < ((dfC q l j).set (cntK q l j) l[j]).length := by rw [List.length_set, dfC_length]; omega
      rw [List.take_add_one, List.getElem?_eq_getElem hlt, List.getElem_set_self]
      rw [List.take_set_of_le (Nat.le_refl _), ih]
      simp [hq]
    · rw [if_neg hq, if_neg hq, ih]
      simp [hq]
theorem dfC_first {α : Type} (q : α → Bool) (l : List α) (i : Nat) (hi : i ≤ l.length) (h : ∀ k (hk : k < l.length), k < i → q l[k] = true) : dfC q l i = l ∧ cntK q l i = i := by
  induction i with
  | zero => exact ⟨rfl, rfl⟩
  | succ i ih =>
    obtain ⟨h1, h2⟩ := ih (by omega) (fun k hk hki => h k hk (by omega))
    have hil : i < l.length := by omega
    simp only [dfC, cntK, List.getElem?_eq_getElem hil]
    rw [if_pos (h i hil (by omega)), if_pos (h i hil (by omega)), h1, h2]
    exact ⟨List.set_getElem_self hil, rfl⟩
theorem idxI_cases {α : Type} (p : α → Bool) (l : List α) : (idxI p l = -1 ∧ ∀ x ∈ l, p x = false) ∨ ∃ (i : Nat) (hi : i < l.length), idxI p l = i ∧ p l[i] = true ∧ ∀ k (hk : k < l.length), k < i → p l[k] = false := by
  unfold idxI
  cases h : l.findIdx? p with
  | none => exact .inl ⟨rfl, by simpa using h⟩
  | some i =>
    rw [List.findIdx?_eq_some_iff_getElem] at h
    obtain ⟨hi, h1, h2⟩ := h
    exact .inr ⟨i, hi, rfl, h1, fun k hk hki => by simpa using h2 k hki⟩
theorem cloneEntryS (l : List EntryM) (hl : l.length < 2147483648) : Sy.Spec Tryz.prog 48 [.sl 3 entrySV l] [] (.osl 0) [(0, .row 3 entrySV l)] := contract Γ hm 100 F48 Tryz.ntmps48 rfl fun F hF => by
  (conv=>whnf)
  refine stepNil rfl (.inl rfl) rfl rfl rfl .sl rfl rfl ?_
  intro b hb
  cases b
  · (refine rg ?_;(conv=>whnf);refine aF ?_;refine rg ?_;(conv=>whnf))
    refine stepOp (good_appendT Γ.toTy 7 rfl rfl rfl rfl rfl (.lit (e := entrySV) (l := []) rfl rfl) .sl (by simp) (by simp; omega) (by simp; omega)) rfl rfl ?_
    (refine rg ?_;(conv=>whnf))
    exact done rfl (.cons .tmp .nil) [(0, 7)] [(0, .row 3 entrySV l)] (fun _ h => h) rfl rfl ⟨trivial, ⟨.inl rfl, rfl, trivial⟩, rfl, rfl⟩
  · have h0 : l = [] := List.eq_nil_of_length_eq_zero (hb rfl)
    subst h0
    (refine rg ?_;(conv=>whnf);refine aT ?_;refine rg ?_;(conv=>whnf))
    refine G_adopt 2 1000 3 entrySV rfl rfl ?_
    exact done rfl (.cons .tmp .nil) [(0, 1000)] [(0, .row 3 entrySV [])] (fun _ h => h) rfl rfl ⟨trivial, ⟨.inl rfl, rfl, trivial⟩, rfl, rfl⟩
theorem indexFuncS_Entry (l : List EntryM) (p : EntryM → Bool) (f : FuncId) (first cap : List SV) (hc : (SV.clo (.func f) first cap).inn [] = true) (hf : ∀ x ∈ l, FunS Tryz.prog f (first ++ [entrySV x] ++ cap) (boolSV (p x))) (hl : Short l) :
    Sy.Spec Tryz.prog 163 [.sl 3 entrySV l, .clo (.func f) first cap] [] (intSV (idxI p l)) [] := contract Γ hm 100 F163 Tryz.ntmps163 rfl fun F hF => by
  unfold Short at hl
  have hin : ∀ x : EntryM, innL [] (first ++ [entrySV x] ++ cap) = true := fun x => clo_inn hc rfl
  (conv=>whnf)
  refine G_countP l.length (fun j => Upto (fun _ x => !(p x)) l j) (fun j => [(0, .sl 3 entrySV l), (1, .clo (.func f) first cap), (7, intSV l.length), (8, intSV j)]) (fun _ => []) [] (upto_zero _ _) ⟨⟨rfl, rfl, ren_id _, hc, rfl, rfl, rfl, rfl, trivial⟩, trivial, rfl, rfl⟩ ?_
  intro j hj hI
  (refine rg ?_;(conv=>whnf))
  refine ⟨fun h => ?_, fun h => ?_⟩
  · have h := of_decide_eq_true h
    have hj2 : j < l.length := by omega
    (refine rg ?_;(conv=>whnf))
    refine ⟨rfl, by omega, by omega, ?_⟩
    (conv=>whnf)
    refine callC (hf l[j] (List.getElem_mem hj2)) rfl rfl rfl (by simp only [hin]; rfl) rfl rfl ?_
    (refine rg ?_;(conv=>whnf))
    refine ⟨fun h2 => ?_, fun h2 => ?_⟩
    · (refine rg ?_;(conv=>whnf))
      refine done0 rfl (.cons .tmp .nil) (congrArg intSV ?_) rfl
      exact idxI_found hj2 (fun i hi hij => by simpa using hI i hi hij) h2
    · (refine rg ?_;(conv=>whnf))
      refine ⟨by unfold I64; omega, ?_⟩
      (conv=>whnf)
      exact G_nextP [] hI hj2 (upto_next hI hj2 (by simp [h2])) ⟨⟨rfl, rfl, ren_id _, hc, rfl, rfl, rfl, rfl, trivial⟩, trivial, rfl, rfl⟩
  · have h := of_decide_eq_false h
    (refine rg ?_;(conv=>whnf))
    refine done0 rfl (.cons .tmp .nil) (congrArg intSV ?_) rfl
    exact idxI_none (fun i hi => by simpa using hI i hi (by omega))
theorem deleteFuncS_Entry (l : List EntryM) (p : EntryM → Bool) (f : FuncId) (first cap : List SV) (hc : (SV.clo (.func f) first cap).inn [] = true) (hc0 : (SV.clo (.func f) first cap).inn [0] = true) (hf : ∀ x ∈ l, FunS Tryz.prog f (first ++ [entrySV x] ++ cap) (boolSV (p x))) (hl : Short l) :
    Sy.Spec Tryz.prog 186 [.osl 0, .clo (.func f) first cap] [(0, .row 3 entrySV l)] (.osl 1) [(0, .non), (1, .row 3 entrySV (l.filter fun x => !(p x)))] := contract Γ hm 100 F186 Tryz.ntmps186 rfl fun F hF => by
  have qi := indexFuncS_Entry l p f first cap hc hf hl
  unfold Short at hl
  have hin : ∀ x : EntryM, innL [] (first ++ [entrySV x] ++ cap) = true := fun x => clo_inn hc rfl
  (conv=>whnf)
  refine callK [0] qi F163 rfl (.cons (.row rfl rfl) (.cons (.refl _) .nil)) (by simp only [innL, hc, Bool.and_true]; rfl) rfl rfl ?_
  rcases idxI_cases p l with ⟨h1, h2⟩ | ⟨i, hi, h1, h2, h3⟩
  · rw [h1]
    have e1 : (l.filter fun x => !(p x)) = l := List.filter_eq_self.2 (fun x hx => by simp [h2 x hx])
    rw [e1]
    (refine rg ?_;(conv=>whnf);refine aT ?_;refine rg ?_;(conv=>whnf))
    refine G_move 0 1000 [0, 4] rfl rfl (by decide) (by simp; exact ⟨rfl, rfl⟩) ?_
    exact done rfl (.cons .tmp .nil) [(0, 0), (1, 1000)] _ (fun _ h => h) rfl rfl ⟨trivial, ⟨.inl rfl, rfl, .inl rfl, rfl, trivial⟩, rfl, rfl⟩
  obtain ⟨f1, f2⟩ := dfC_first (fun x => !(p x)) l i (by omega) (fun k hk hki => by simp [h3 k hk hki])
  have g1 : dfC (fun x => !(p x)) l (i + 1 + 0) = l := by
    show dfC (fun x => !(p x)) l (i + 1) = l
    simp only [dfC, List.getElem?_eq_getElem hi]
    rw [if_neg (by simp [h2]), f1]
  have g2 : cntK (fun x => !(p x)) l (i + 1 + 0) = i := by
    show cntK (fun x => !(p x)) l (i + 1) = i
    simp only [cntK, List.getElem?_eq_getElem hi]
    rw [if_neg (by simp [h2]), f2]
  rw [h1]
  (refine rg ?_;(conv=>whnf);refine aF ?_;refine rg ?_;(conv=>whnf))
  refine ⟨by unfold I64; omega, ?_⟩
  (conv=>whnf)
  refine G_count (l.length - (i + 1)) (fun j => [(0, .osl 0), (1, .clo (.func f) first cap), (5, intSV (cntK (fun x => !(p x)) l (i + 1 + j))), (6, intSV ((i + 1 + j : Nat)))]) (fun j => [(0, .row 3 entrySV (dfC (fun x => !(p x)) l (i + 1 + j)))]) []
    ⟨⟨rfl, rfl, ren_id _, hc0, congrArg intSV (congrArg Int.ofNat g2), rfl, congrArg (fun z => SV.val (.int .i64 z)) (by omega), rfl, trivial⟩, ⟨.inl (congrArg (Ob.row 3 entrySV) g1), rfl, trivial⟩, rfl, rfl⟩ ?_
  intro j hj
  have hcl := cntK_le (fun x => !(p x)) l (i + 1 + j)
  have hdl := dfC_length (fun x => !(p x)) l (i + 1 + j)
  have hget := dfC_get (fun x => !(p x)) l (i + 1 + j) (i + 1 + j) (Nat.le_refl _)
  have s1 : ∀ h : i + 1 + j < l.length, cntK (fun x => !(p x)) l (i + 1 + (j + 1)) = if (!(p l[i + 1 + j])) = true then cntK (fun x => !(p x)) l (i + 1 + j) + 1 else cntK (fun x => !(p x)) l (i + 1 + j) := fun hlt => by
    show cntK (fun x => !(p x)) l (i + 1 + j + 1) = _
    simp only [cntK, List.getElem?_eq_getElem hlt]
  have s2 : ∀ h : i + 1 + j < l.length, dfC (fun x => !(p x)) l (i + 1 + (j + 1)) = if (!(p l[i + 1 + j])) = true then (dfC (fun x => !(p x)) l (i + 1 + j)).set (cntK (fun x => !(p x)) l (i + 1 + j)) l[i + 1 + j] else dfC (fun x => !(p x)) l (i + 1 + j) := fun hlt => by
    show dfC (fun x => !(p x)) l (i + 1 + j + 1) = _
    simp only [dfC, List.getElem?_eq_getElem hlt]
  have htk := fun h => dfC_take (fun x => !(p x)) l (i + 1 + j) h
  obtain ⟨D, hD⟩ : ∃ D, dfC (fun x => !(p x)) l (i + 1 + j) = D := ⟨_, rfl⟩
  obtain ⟨K, hK⟩ : ∃ K, cntK (fun x => !(p x)) l (i + 1 + j) = K := ⟨_, rfl⟩
  rw [hD] at hdl hget s2 htk ⊢
  rw [hK] at hcl s1 s2 htk ⊢
  (refine rg ?_;(conv=>whnf))
  refine ⟨fun h => ?_, fun h => ?_⟩
  · have hlt : i + 1 + j < l.length := by have := of_decide_eq_true h; omega
    have hfx := hf l[i + 1 + j] (List.getElem_mem hlt)
    have s1 := s1 hlt
    have s2 := s2 hlt
    rw [List.getElem?_eq_getElem hlt, List.getElem?_eq_getElem (by omega)] at hget
    have hget := Option.some.inj hget
    obtain ⟨x, hx⟩ : ∃ x, l[i + 1 + j] = x := ⟨_, rfl⟩
    rw [hx] at hfx s1 s2 hget
    (refine rg ?_;(conv=>whnf))
    refine ⟨by omega, by simp; omega, ?_⟩
    (conv=>whnf)
    refine ⟨rfl, by omega, ?_⟩
    rw [show D[((i + 1 + j : Nat) : Int).toNat]'(by omega) = x from hget]
    (conv=>whnf)
    refine callC hfx rfl rfl rfl (by simp only [hin]; rfl) rfl rfl ?_
    cases hpx : p x
    · rw [hpx] at s1 s2
      (refine rg ?_;(conv=>whnf);refine aT ?_;refine rg ?_;(conv=>whnf))
      refine ⟨by omega, by simp; omega, ?_⟩
      (conv=>whnf)
      refine ⟨rfl, by omega, x, rfl, rfl, ?_⟩
      (conv=>whnf)
      refine ⟨by unfold I64; omega, ?_⟩
      (conv=>whnf)
      refine ⟨by unfold I64; omega, ?_⟩
      (conv=>whnf)
      exact G_next [] (by omega) ⟨⟨rfl, rfl, ren_id _, hc0, congrArg intSV (congrArg Int.ofNat s1), rfl, congrArg (fun z => SV.val (.int .i64 z)) (by omega), rfl, trivial⟩, ⟨.inl (congrArg (Ob.row 3 entrySV) s2), rfl, trivial⟩, rfl, rfl⟩
    · rw [hpx] at s1 s2
      (refine rg ?_;(conv=>whnf);refine aF ?_;refine rg ?_;(conv=>whnf))
      refine ⟨by unfold I64; omega, ?_⟩
      (conv=>whnf)
      exact G_next [] (by omega) ⟨⟨rfl, rfl, ren_id _, hc0, congrArg intSV (congrArg Int.ofNat s1), rfl, congrArg (fun z => SV.val (.int .i64 z)) (by omega), rfl, trivial⟩, ⟨.inl (congrArg (Ob.row 3 entrySV) s2), rfl, trivial⟩, rfl, rfl⟩
  · have hend : i + 1 + j = l.length := by have := of_decide_eq_false h; omega
    have hne : D ≠ [] := fun h => by rw [h] at hdl; simp at hdl; omega
    have htk := htk (by omega)
    rw [show l.take (i + 1 + j) = l from List.take_of_length_le (by omega)] at htk
    refine G_pin 0 [0] rfl hne (by simp; rfl) ?_
    intro b cap' hcap
    (refine rg ?_;(conv=>whnf))
    refine stepOp (good_slice_v Γ.toTy rfl rfl rfl rfl (.inr ⟨_, _, rfl, rfl⟩) (.inl ⟨rfl, rfl⟩) (by omega) (by omega)) rfl rfl ?_
    (refine rg ?_;(conv=>whnf))
    refine stepOp (good_clear_pin Γ.toTy 0 (k := K) rfl rfl rfl rfl (by decide) rfl rfl rfl (by omega) (by omega)) rfl rfl ?_
    (refine rg ?_;(conv=>whnf))
    refine stepOp (good_slice_v Γ.toTy rfl rfl rfl rfl (.inl ⟨rfl, rfl⟩) (.inr ⟨_, _, rfl, rfl⟩) (by omega) (by omega)) rfl rfl ?_
    (refine rg ?_;(conv=>whnf))
    refine G_unpin 0 1000 [4] K rfl rfl (by rw [List.length_take]; omega) (fun i hi => ?_) ?_
    · rw [List.mem_singleton] at hi
      subst hi
      show SV.val (.slice (some (if cap' = 0 then ⟨b, 0, none⟩ else ⟨b, 0 * 3, none⟩)) (K - 0) (cap' - 0)) = _
      split <;> simp
    refine done rfl (.cons .tmp .nil) [(0, 0), (1, 1000)] _ (fun _ h => h) rfl rfl ⟨trivial, ⟨.inl rfl, rfl, .inl ?_, rfl, trivial⟩, rfl, rfl⟩
    rw [← htk]
    exact congrArg (Ob.row 3 entrySV) (by rw [List.take_take, Nat.min_self])
theorem deleteS_Entry (l : List EntryM) (i : Nat) (hi : i < l.length) (hl : Short l) :
    Sy.Spec Tryz.prog 293 [.osl 0, intSV i, intSV ((i + 1 : Nat) : Int)] [(0, .row 3 entrySV l)] (.osl 1) [(0, .non), (1, .row 3 entrySV (l.take i ++ l.drop (i + 1)))] := contract Γ hm 100 F293 Tryz.ntmps293 rfl fun F hF => by
  unfold Short at hl
  have hne : l ≠ [] := fun h => by rw [h] at hi; simp at hi
  (conv=>whnf)
  refine G_pin 0 [0, 8] rfl hne (by simp; exact ⟨rfl, rfl⟩) ?_
  intro b cap hcap
  (refine rg ?_;(conv=>whnf))
  refine stepOp (good_slice3_v Γ.toTy rfl rfl rfl rfl rfl rfl rfl (by omega) (by omega) hcap) rfl rfl ?_
  (refine rg ?_;(conv=>whnf))
  refine ⟨fun h => absurd h (by simp; omega), fun _ => ?_⟩
  (refine rg ?_;(conv=>whnf))
  refine stepD (good_slice_v Γ.toTy rfl rfl rfl rfl (.inl ⟨rfl, rfl⟩) (.inr ⟨_, _, rfl, rfl⟩) (by omega) (by omega)) (by kernel_rfl) rfl ?_
  (refine rd (by kernel_rfl) ?_;(conv=>whnf))
  refine stepD (good_slice_v (hi := l.length) Γ.toTy rfl rfl rfl rfl (.inr ⟨_, _, rfl, rfl⟩) (.inl ⟨rfl, rfl⟩) (by omega) (by omega)) (by kernel_rfl) rfl ?_
  (refine rd (by kernel_rfl) ?_;(conv=>whnf))
  have hif : (if cap = 0 then (⟨b, 0, none⟩ : Addr) else ⟨b, 0 * 3, none⟩) = ⟨b, 0, none⟩ := by split <;> simp
  refine stepD (good_append_pin Γ.toTy 0 (n := l.length) (i := i) (j := i + 1) rfl rfl rfl (congrArg (fun z => SV.val (.slice (some z) i cap)) hif) rfl rfl rfl rfl (by omega) (by omega)) (by kernel_rfl) rfl ?_
  (refine rd (by kernel_rfl) ?_;(conv=>whnf))
  refine ⟨(by kernel_rfl), ?_⟩
  (conv=>whnf)
  refine stepOp (good_slice_v (lo := i + (l.length - (i + 1))) (hi := l.length) Γ.toTy rfl rfl rfl rfl (.inr ⟨_, _, rfl, rfl⟩) (.inr ⟨_, _, rfl, rfl⟩) (by omega) (by omega)) rfl rfl ?_
  (refine rg ?_;(conv=>whnf))
  have hll : (l.take i ++ l.drop (i + 1)).length = i + (l.length - (i + 1)) := by rw [List.length_append, List.length_take, List.length_drop]; omega
  refine stepOp (good_clear_pin Γ.toTy 0 (k := i + (l.length - (i + 1))) rfl rfl rfl rfl (by decide) rfl rfl rfl (by omega) (by omega)) rfl rfl ?_
  (refine rg ?_;(conv=>whnf))
  refine G_unpin 0 1000 [6] (i + (l.length - (i + 1))) rfl rfl (by rw [List.length_take]; omega) (by simp; rfl) ?_
  refine done rfl (.cons .tmp .nil) [(0, 0), (1, 1000)] _ (fun _ h => h) rfl rfl ⟨trivial, ⟨.inl rfl, rfl, .inl ?_, rfl, trivial⟩, rfl, rfl⟩
  exact congrArg (Ob.row 3 entrySV) (by rw [List.take_take, Nat.min_self]; exact (List.take_of_length_le (by omega)).symm)
end Go.Sy.YtmelpejjondedaaGreat

namespace Go.Sy.YtmelpejjondedaaGreat
open Go.Proofs
attribute [local irreducible] Go.Sy.G Go.Sy.DR
set_option maxRecDepth 100000
set_option maxHeartbeats 4000000
theorem tabStationS (m : Nat) (h : m < 18446744073709551616) : Sy.Spec Tryz.prog 97 [u64SV m] [] (boolSV (stationB m)) [] := contract Γ hm 100 F97 Tryz.ntmps97 rfl fun F hF => by
  have q := macGroupS m h
  (conv=>whnf)
  refine ⟨fun h1 => ?_, fun h1 => ?_⟩
  · have h2 : m ≤ 281474976710655 := by simp at h1; omega
    (refine rg ?_;(conv=>whnf))
    refine call0 q F162 rfl rfl rfl rfl rfl ?_
    (refine rg ?_;(conv=>whnf))
    exact done0 rfl (.cons .tmp .nil) (congrArg boolSV (by rw [stationB, decide_eq_true h2, Bool.true_and])) rfl
  · have h2 : ¬ m ≤ 281474976710655 := by simp at h1; omega
    (refine rg ?_;(conv=>whnf))
    exact done0 rfl (.cons .tmp .nil) (congrArg boolSV (by rw [stationB, decide_eq_false h2, Bool.false_and])) rfl
theorem tabTimelyS (i : Int) : Sy.Spec Tryz.prog 98 [intSV i] [] (boolSV (timelyB i)) [] := contract Γ hm 100 F98 Tryz.ntmps98 rfl fun F hF => by
  (conv=>whnf)
  (repeat' (first | (refine ⟨fun h => ?_, fun h => ?_⟩ <;> (repeat (first | simp only [decide_eq_true_eq] at h | simp only [decide_eq_false_iff_not] at h)) <;> ((refine rg ?_);(conv=>whnf))) | (refine done0 rfl (.cons .tmp .nil) ?_ rfl)))
  all_goals (refine congrArg boolSV ?_)
  all_goals grind [timelyB]
theorem tabIndexC (m : Nat) (e : EntryM) : Sy.Spec Tryz.prog 164 [entrySV e, .ref 1 (u64SV m) 0] [] (boolSV (decide (e.mac = m))) [] := contract Γ hm 100 F164 Tryz.ntmps164 rfl fun F hF => by
  (conv=>whnf)
  refine done0 rfl (.cons .tmp .nil) ?_ rfl
  refine congrArg boolSV ?_
  rw [Bool.eq_iff_iff]; simp; omega
theorem tabIndexS (t : List EntryM) (m : Nat) (hl : Short t) : Sy.Spec Tryz.prog 99 [.sl 3 entrySV t, u64SV m] [] (intSV (indexE t m)) [] := contract Γ hm 100 F99 Tryz.ntmps99 rfl fun F hF => by
  have q := indexFuncS_Entry t (fun e => decide (e.mac = m)) 164 [] [.ref 1 (u64SV m) 0] rfl (fun x _ => ⟨⟨_, _, F164⟩, tabIndexC m x⟩) hl
  (conv=>whnf)
  refine G_box 3 1 (u64SV m) rfl rfl rfl ?_
  (refine rg ?_;(conv=>whnf))
  refine call0 q F163 rfl rfl rfl rfl rfl ?_
  (refine rg ?_;(conv=>whnf))
  exact done0 rfl (.cons .tmp .nil) rfl rfl
theorem tabFindS (t : List EntryM) (m : Nat) (hl : Short t) : Sy.Spec Tryz.prog 307 [.sl 3 entrySV t, u64SV m] [] (.tup [intSV (findE t m).1, boolSV (findE t m).2]) [] := contract Γ hm 100 F307 Tryz.ntmps307 rfl fun F hF => by
  have q := tabIndexS t m hl
  have hlt : indexE t m < t.length := idxI_lt _ _
  have hres := findE.eq_1 t m
  generalize findE t m = res at *
  generalize indexE t m = i at *
  (conv=>whnf)
  refine call0 q F99 rfl rfl rfl rfl rfl ?_
  (refine rg ?_;(conv=>whnf))
  refine ⟨fun h => ?_, fun h => ?_⟩
  · rw [if_pos (by simpa using h)] at hres
    subst hres
    (refine rg ?_;(conv=>whnf))
    exact done0 rfl (.cons .tmp (.cons .tmp .nil)) rfl rfl
  · have h0 : ¬ i < 0 := by simpa using h
    have hi : i.toNat < t.length := by omega
    rw [if_neg h0, List.getElem?_eq_getElem hi] at hres
    subst hres
    (refine rg ?_;(conv=>whnf))
    refine ⟨rfl, by omega, by omega, ?_⟩
    (conv=>whnf)
    exact done0 rfl (.cons .tmp (.cons .tmp .nil)) rfl rfl
theorem tabRightS (t : List EntryM) (hl : Short t) (hmac : ∀ e ∈ t, e.mac < 18446744073709551616) : Sy.Spec Tryz.prog 47 [.sl 3 entrySV t] [] (boolSV (tableB t)) [] := contract Γ hm 100 F47 Tryz.ntmps47 rfl fun F hF => by
  unfold Short at hl
  have hres := tableB.eq_1 t
  generalize tableB t = res at *
  (conv=>whnf)
  refine ⟨fun h => ?_, fun h => ?_⟩
  · have h8 : ¬ t.length ≤ 8 := by simp at h; omega
    rw [decide_eq_false h8, Bool.false_and] at hres
    subst hres
    (refine rg ?_;(conv=>whnf))
    exact done0 rfl (.cons .tmp .nil) rfl rfl
  have h8 : t.length ≤ 8 := by simp at h; omega
  rw [decide_eq_true h8, Bool.true_and] at hres
  (refine rg ?_;(conv=>whnf))
  refine G_countP t.length (fun j => Upto (entryB t) t j) (fun j => [(0, .sl 3 entrySV t), (8, .sl 3 entrySV t), (9, intSV t.length), (10, intSV j)]) (fun _ => []) [] (upto_zero _ _) ⟨⟨rfl, rfl, rfl, rfl, rfl, rfl, rfl, rfl, trivial⟩, trivial, rfl, rfl⟩ ?_
  intro j hj hI
  (refine rg ?_;(conv=>whnf))
  refine ⟨fun h => ?_, fun h => ?_⟩
  · have hlt : j < t.length := by have := of_decide_eq_true h; omega
    have q1 := tabStationS t[j].mac (hmac _ (List.getElem_mem hlt))
    have q2 := tabTimelyS t[j].seen
    have q3 := tabIndexS t t[j].mac hl
    have hent : entryB t j t[j] = (stationB t[j].mac && timelyB t[j].seen && decide (indexE t t[j].mac = j)) := rfl
    have hbad : entryB t j t[j] = false → res = false := fun hf => by rw [hres]; exact allB_false hlt hf
    have hgood : entryB t j t[j] = true → Upto (entryB t) t (j + 1) := fun ht => upto_next hI hlt ht
    (refine rg ?_;(conv=>whnf))
    refine ⟨rfl, by omega, by omega, ?_⟩
    rw [show t[((j : Nat) : Int).toNat]'(by omega) = t[j] from rfl]
    generalize t[j] = x at *
    (conv=>whnf)
    refine call0 q1 F97 rfl rfl rfl rfl rfl ?_
    cases h1 : stationB x.mac
    · rw [hbad (by rw [hent, h1]; rfl)]
      (refine rg ?_;(conv=>whnf);refine aT ?_;refine rg ?_;(conv=>whnf);refine aT ?_;refine rg ?_;(conv=>whnf);refine aT ?_;refine rg ?_;(conv=>whnf))
      exact done0 rfl (.cons .tmp .nil) rfl rfl
    (refine rg ?_;(conv=>whnf);refine aF ?_;refine rg ?_;(conv=>whnf))
    refine call0 q2 F98 rfl rfl rfl rfl rfl ?_
    cases h2 : timelyB x.seen
    · rw [hbad (by rw [hent, h1, h2]; rfl)]
      (refine rg ?_;(conv=>whnf);refine aT ?_;refine rg ?_;(conv=>whnf);refine aT ?_;refine rg ?_;(conv=>whnf))
      exact done0 rfl (.cons .tmp .nil) rfl rfl
    (refine rg ?_;(conv=>whnf);refine aF ?_;refine rg ?_;(conv=>whnf))
    refine call0 q3 F99 rfl rfl rfl rfl rfl ?_
    (refine rg ?_;(conv=>whnf))
    refine ⟨fun h3 => ?_, fun h3 => ?_⟩
    · rw [hbad (by rw [hent, h1, h2, decide_eq_false (by simpa using h3)]; rfl)]
      (refine rg ?_;(conv=>whnf))
      exact done0 rfl (.cons .tmp .nil) rfl rfl
    · have h4 := hgood (by rw [hent, h1, h2, decide_eq_true (by simpa using h3)]; rfl)
      (refine rg ?_;(conv=>whnf))
      refine ⟨by unfold I64; omega, ?_⟩
      (conv=>whnf)
      exact G_nextP [] hI (by omega) h4 ⟨⟨rfl, rfl, rfl, rfl, rfl, rfl, rfl, rfl, trivial⟩, trivial, rfl, rfl⟩
  · have hend : j = t.length := by have := of_decide_eq_false h; omega
    subst hend
    rw [hres.trans (upto_all hI (Nat.le_refl _))]
    (refine rg ?_;(conv=>whnf))
    exact done0 rfl (.cons .tmp .nil) rfl rfl
end Go.Sy.YtmelpejjondedaaGreat

namespace Go.Sy.YtmelpejjondedaaGreat
open Go.Proofs
attribute [local irreducible] Go.Sy.G Go.Sy.DR
set_option maxRecDepth 100000
set_option maxHeartbeats 4000000
theorem tabAgeC (now : Int) (hn : timelyB now = true) (e : EntryM) : Sy.Spec Tryz.prog 187 [entrySV e, .ref 1 (intSV now) 0] [] (boolSV (decide (e.seen < now - 4))) [] := contract Γ hm 100 F187 Tryz.ntmps187 rfl fun F hF => by
  have hn2 : 0 ≤ now ∧ now ≤ 1099511627776 := by simpa [timelyB] using hn
  (conv=>whnf)
  refine ⟨by unfold I64; omega, ?_⟩
  (conv=>whnf)
  exact done0 rfl (.cons .tmp .nil) rfl rfl
theorem tabAgeS (t : List EntryM) (now : Int) (hl : Short t) (hmac : ∀ e ∈ t, e.mac < 18446744073709551616) : Sy.Spec Tryz.prog 107 [.sl 3 entrySV t, intSV now] [] (.sl 3 entrySV (ageT t now)) [] := contract Γ hm 100 F107 Tryz.ntmps107 rfl fun F hF => by
  have hl2 := hl
  unfold Short at hl2
  have hres := ageT.eq_1 t now
  generalize ageT t now = res at *
  have q1 := tabRightS t hl hmac
  have q2 := tabTimelyS now
  (conv=>whnf)
  refine stepOp (good_call [(0, 55)] rfl F48 (cloneEntryS t hl2) rfl trivial rfl ⟨.inr rfl, trivial⟩) rfl rfl ?_
  (refine rg ?_;(conv=>whnf))
  refine call0 q1 F47 rfl rfl rfl rfl rfl ?_
  cases h1 : tableB t
  · rw [if_pos (.inl h1)] at hres
    subst hres
    (refine rg ?_;(conv=>whnf);refine aT ?_;refine rg ?_;(conv=>whnf);refine aT ?_;refine rg ?_;(conv=>whnf))
    refine G_data 55 rfl ?_
    exact done0 rfl (.cons .tmp .nil) rfl rfl
  (refine rg ?_;(conv=>whnf);refine aF ?_;refine rg ?_;(conv=>whnf))
  refine call0 q2 F98 rfl rfl rfl rfl rfl ?_
  cases h2 : timelyB now
  · rw [if_pos (.inr h2)] at hres
    subst hres
    (refine rg ?_;(conv=>whnf);refine aT ?_;refine rg ?_;(conv=>whnf))
    refine G_data 55 rfl ?_
    exact done0 rfl (.cons .tmp .nil) rfl rfl
  rw [if_neg (by simp [h1, h2])] at hres
  (refine rg ?_;(conv=>whnf);refine aF ?_;refine rg ?_;(conv=>whnf))
  refine G_box 3 1 (intSV now) rfl rfl rfl ?_
  (refine rg ?_;(conv=>whnf))
  have q3 := deleteFuncS_Entry t (fun e => decide (e.seen < now - 4)) 187 [] [.ref 1 (intSV now) 0] rfl rfl (fun x _ => ⟨⟨_, _, F187⟩, tabAgeC now h2 x⟩) hl
  refine stepOp (good_call [(0, 55), (1, 56)] rfl F186 q3 rfl ⟨rfl, trivial⟩ rfl ⟨.inl rfl, .inr rfl, trivial⟩) rfl rfl ?_
  (refine rg ?_;(conv=>whnf))
  refine G_data 56 rfl ?_
  refine done0 rfl (.cons .tmp .nil) ?_ rfl
  subst hres
  refine congrArg (SV.sl 3 entrySV) (List.filter_congr fun e _ => ?_)
  rw [Bool.eq_iff_iff]; simp
theorem oldestU_lt (t : List EntryM) (j : Nat) (h : 0 < t.length) (hj : j ≤ t.length) : oldestU t j < t.length := by
  induction j with
  | zero => exact h
  | succ j ih =>
    rw [oldestU]
    split
    · omega
    · exact ih (by omega)
theorem tabOldestS (t : List EntryM) (hl : Short t) (h0 : 0 < t.length) : Sy.Spec Tryz.prog 292 [.sl 3 entrySV t] [] (intSV (oldestU t t.length : Nat)) [] := contract Γ hm 100 F292 Tryz.ntmps292 rfl fun F hF => by
  unfold Short at hl
  (conv=>whnf)
  refine G_count t.length (fun j => [(0, .sl 3 entrySV t), (3, intSV (oldestU t j : Nat)), (6, .sl 3 entrySV t), (7, intSV t.length), (8, intSV j)]) (fun _ => []) [] ⟨⟨rfl, rfl, rfl, rfl, rfl, rfl, rfl, rfl, rfl, rfl, trivial⟩, trivial, rfl, rfl⟩ ?_
  intro j hj
  (refine rg ?_;(conv=>whnf))
  refine ⟨fun h => ?_, fun h => ?_⟩
  · have hlt : j < t.length := by have := of_decide_eq_true h; omega
    have hol := oldestU_lt t j h0 (by omega)
    have hs := oldestU.eq_2 t j
    rw [List.getElem?_eq_getElem hlt, List.getElem?_eq_getElem hol] at hs
    obtain ⟨o, ho⟩ : ∃ o, oldestU t j = o := ⟨_, rfl⟩
    simp only [ho] at hs hol ⊢
    have hs2 : oldestU t (j + 1) = if t[j].seen < t[o].seen then j else o := hs
    (refine rg ?_;(conv=>whnf))
    refine ⟨rfl, by omega, by omega, ?_⟩
    rw [show t[((j : Nat) : Int).toNat]'(by omega) = t[j] from rfl]
    (conv=>whnf)
    refine ⟨rfl, by omega, by omega, ?_⟩
    rw [show t[((o : Nat) : Int).toNat]'(by omega) = t[o] from rfl]
    (conv=>whnf)
    refine ⟨(by kernel_rfl), ?_⟩
    (conv=>whnf)
    refine ⟨fun h2 => ?_, fun h2 => ?_⟩
    · rw [if_pos (of_decide_eq_true h2)] at hs2
      (refine rg ?_;(conv=>whnf))
      refine ⟨by unfold I64; omega, ?_⟩
      (conv=>whnf)
      exact G_next [] (by omega) ⟨⟨rfl, rfl, congrArg (fun z : Nat => intSV z) hs2, rfl, rfl, rfl, rfl, rfl, rfl, rfl, trivial⟩, trivial, rfl, rfl⟩
    · rw [if_neg (of_decide_eq_false h2)] at hs2
      (refine rg ?_;(conv=>whnf))
      refine ⟨by unfold I64; omega, ?_⟩
      (conv=>whnf)
      exact G_next [] (by omega) ⟨⟨rfl, rfl, congrArg (fun z : Nat => intSV z) hs2, rfl, rfl, rfl, rfl, rfl, rfl, rfl, trivial⟩, trivial, rfl, rfl⟩
  · have : j = t.length := by have := of_decide_eq_false h; omega
    subst this
    (refine rg ?_;(conv=>whnf))
    exact done0 rfl (.cons .tmp .nil) rfl rfl
end Go.Sy.YtmelpejjondedaaGreat

namespace Go.Sy.YtmelpejjondedaaGreat
open Go.Proofs
attribute [local irreducible] Go.Sy.G Go.Sy.DR
set_option maxRecDepth 100000
set_option maxHeartbeats 4000000
theorem tabLearnS (t : List EntryM) (m : Nat) (wh now : Int) (hl : Short t) (hmac : ∀ e ∈ t, e.mac < 18446744073709551616) (hm64 : m < 18446744073709551616) :
    Sy.Spec Tryz.prog 243 [.sl 3 entrySV t, u64SV m, intSV wh, intSV now] [] (.sl 3 entrySV (learnT t m wh now)) [] := contract Γ hm 100 F243 Tryz.ntmps243 rfl fun F hF => by
  have hl2 := hl
  unfold Short at hl2
  have hres := learnT.eq_1 t m wh now
  generalize learnT t m wh now = res at *
  have q1 := tabRightS t hl hmac
  have q2 := tabStationS m hm64
  have q3 := tabTimelyS now
  have q4 := tabIndexS t m hl
  (conv=>whnf)
  refine stepOp (good_call [(0, 55)] rfl F48 (cloneEntryS t hl2) rfl trivial rfl ⟨.inr rfl, trivial⟩) rfl rfl ?_
  (refine rg ?_;(conv=>whnf))
  refine call0 q1 F47 rfl rfl rfl rfl rfl ?_
  cases h1 : tableB t
  · rw [if_pos (.inl h1)] at hres
    subst hres
    (refine rg ?_;(conv=>whnf);refine aT ?_;refine rg ?_;(conv=>whnf);refine aT ?_;refine rg ?_;(conv=>whnf);refine aT ?_;refine rg ?_;(conv=>whnf))
    refine G_data 55 rfl ?_
    exact done0 rfl (.cons .tmp .nil) rfl rfl
  (refine rg ?_;(conv=>whnf);refine aF ?_;refine rg ?_;(conv=>whnf))
  refine call0 q2 F97 rfl rfl rfl rfl rfl ?_
  cases h2 : stationB m
  · rw [if_pos (.inr (.inl h2))] at hres
    subst hres
    (refine rg ?_;(conv=>whnf);refine aT ?_;refine rg ?_;(conv=>whnf);refine aT ?_;refine rg ?_;(conv=>whnf))
    refine G_data 55 rfl ?_
    exact done0 rfl (.cons .tmp .nil) rfl rfl
  (refine rg ?_;(conv=>whnf);refine aF ?_;refine rg ?_;(conv=>whnf))
  refine call0 q3 F98 rfl rfl rfl rfl rfl ?_
  cases h3 : timelyB now
  · rw [if_pos (.inr (.inr h3))] at hres
    subst hres
    (refine rg ?_;(conv=>whnf);refine aT ?_;refine rg ?_;(conv=>whnf))
    refine G_data 55 rfl ?_
    exact done0 rfl (.cons .tmp .nil) rfl rfl
  rw [if_neg (by simp [h1, h2, h3])] at hres
  have ht8 : t.length ≤ 8 := by simp only [tableB, Bool.and_eq_true, decide_eq_true_eq] at h1; exact h1.1
  have hfound : ∀ hi : 0 ≤ indexE t m, ∃ h : (indexE t m).toNat < t.length, t[(indexE t m).toNat].mac = m := fun hi => by
    rcases idxI_cases (fun e => decide (EntryM.mac e = m)) t with ⟨h, _⟩ | ⟨k, hk, h, h2, _⟩
    · rw [indexE, h] at hi
      exact absurd hi (by decide)
    · have e1 : indexE t m = k := h
      simp only [e1, Int.toNat_natCast]
      exact ⟨hk, of_decide_eq_true h2⟩
  generalize indexE t m = i at *
  (refine rg ?_;(conv=>whnf);refine aF ?_;refine rg ?_;(conv=>whnf))
  refine call0 q4 F99 rfl rfl rfl rfl rfl ?_
  (refine rg ?_;(conv=>whnf))
  refine ⟨fun h4 => ?_, fun h4 => ?_⟩
  · have h5 : 0 ≤ i := by simpa using h4
    obtain ⟨hi, hmm⟩ := hfound h5
    rw [if_pos h5] at hres
    (refine rg ?_;(conv=>whnf))
    have hne : t ≠ [] := fun h => by rw [h] at hi; simp at hi
    refine ⟨h5, by omega, ?_⟩
    (conv=>whnf)
    refine ⟨hne, ?_⟩
    (conv=>whnf)
    refine ⟨rfl, hi, ⟨t[i.toNat].mac, wh, t[i.toNat].seen⟩, rfl, rfl, ?_⟩
    (conv=>whnf)
    refine ⟨h5, by simp; omega, ?_⟩
    (conv=>whnf)
    refine ⟨by simp; exact hne, ?_⟩
    (conv=>whnf)
    refine ⟨rfl, by simp; omega, ⟨t[i.toNat].mac, wh, now⟩, by rw [List.getElem_set_self]; rfl, by rw [List.getElem_set_self]; rfl, ?_⟩
    (conv=>whnf)
    refine G_data 55 rfl ?_
    (refine rg ?_;(conv=>whnf))
    refine done0 rfl (.cons .tmp .nil) (congrArg (SV.sl 3 entrySV) ?_) rfl
    rw [hres, List.set_set, hmm]
  · have h5 : ¬ 0 ≤ i := by simp at h4 ⊢; omega
    rw [if_neg h5] at hres
    (refine rg ?_;(conv=>whnf))
    refine ⟨fun h6 => ?_, fun h6 => ?_⟩
    · have h7 : t.length = 8 := by simp at h6; omega
      rw [if_pos h7] at hres
      have q5 := tabOldestS t hl (by omega)
      have hol := oldestU_lt t t.length (by omega) (Nat.le_refl _)
      (refine rg ?_;(conv=>whnf))
      refine callK [55] q5 F292 rfl (.cons (.row rfl rfl) .nil) rfl rfl rfl ?_
      generalize oldestU t t.length = o at *
      have q6 := deleteS_Entry t o hol hl
      (refine rg ?_;(conv=>whnf))
      refine ⟨by unfold I64; omega, ?_⟩
      (conv=>whnf)
      refine stepOp (good_call [(0, 55), (1, 56)] rfl F293 q6 rfl ⟨rfl, trivial⟩ rfl ⟨.inl rfl, .inr rfl, trivial⟩) rfl rfl ?_
      (refine rg ?_;(conv=>whnf))
      refine stepOp (good_appendT Γ.toTy 60 rfl rfl rfl rfl rfl (.row rfl) (.lit (e := entrySV) (l := [⟨m, wh, now⟩]) rfl rfl) (fun j hj => by cases hj; decide) (by simp; omega) (by simp; omega)) rfl rfl ?_
      refine G_data 60 rfl ?_
      (refine rg ?_;(conv=>whnf))
      refine done0 rfl (.cons .tmp .nil) (congrArg (SV.sl 3 entrySV) ?_) rfl
      rw [hres, List.eraseIdx_eq_take_drop_succ]
    · have h7 : ¬ t.length = 8 := by simp at h6; omega
      rw [if_neg h7] at hres
      (refine rg ?_;(conv=>whnf))
      refine stepOp (good_appendT Γ.toTy 60 rfl rfl rfl rfl rfl (.row rfl) (.lit (e := entrySV) (l := [⟨m, wh, now⟩]) rfl rfl) (fun j hj => by cases hj; decide) (by simp; omega) (by simp; omega)) rfl rfl ?_
      refine G_data 60 rfl ?_
      (refine rg ?_;(conv=>whnf))
      exact done0 rfl (.cons .tmp .nil) (congrArg (SV.sl 3 entrySV) hres) rfl
end Go.Sy.YtmelpejjondedaaGreat

namespace Go.Sy.YtmelpejjondedaaGreat
open Go.Proofs
attribute [local irreducible] Go.Sy.G Go.Sy.DR
set_option maxRecDepth 100000
set_option maxHeartbeats 4000000
theorem cloneRowIntS (l : List Int) (hl : l.length < 2147483648) : Sy.Spec Tryz.prog 95 [.sl 1 intSV l] [] (.osl 0) [(0, .row 1 intSV l)] := contract Γ hm 100 F95 Tryz.ntmps95 rfl fun F hF => by
  (conv=>whnf)
  refine stepNil rfl (.inl rfl) rfl rfl rfl .sl rfl rfl ?_
  intro b hb
  cases b
  · (refine rg ?_;(conv=>whnf);refine aF ?_;refine rg ?_;(conv=>whnf))
    refine stepOp (good_appendT Γ.toTy 7 rfl rfl rfl rfl rfl (.lit (e := intSV) (l := []) rfl rfl) .sl (by simp) (by simp; omega) (by simp; omega)) rfl rfl ?_
    (refine rg ?_;(conv=>whnf))
    exact done rfl (.cons .tmp .nil) [(0, 7)] [(0, .row 1 intSV l)] (fun _ h => h) rfl rfl ⟨trivial, ⟨.inl rfl, rfl, trivial⟩, rfl, rfl⟩
  · have h0 : l = [] := List.eq_nil_of_length_eq_zero (hb rfl)
    subst h0
    (refine rg ?_;(conv=>whnf);refine aT ?_;refine rg ?_;(conv=>whnf))
    refine G_adopt 2 1000 1 intSV rfl rfl ?_
    exact done rfl (.cons .tmp .nil) [(0, 1000)] [(0, .row 1 intSV [])] (fun _ h => h) rfl rfl ⟨trivial, ⟨.inl rfl, rfl, trivial⟩, rfl, rfl⟩
theorem deleteFuncS_Int (l : List Int) (p : Int → Bool) (f : FuncId) (first cap : List SV) (hc : (SV.clo (.func f) first cap).inn [] = true) (hc0 : (SV.clo (.func f) first cap).inn [0] = true) (hf : ∀ x ∈ l, FunS Tryz.prog f (first ++ [intSV x] ++ cap) (boolSV (p x))) (hl : Short l) :
    Sy.Spec Tryz.prog 291 [.osl 0, .clo (.func f) first cap] [(0, .row 1 intSV l)] (.osl 1) [(0, .non), (1, .row 1 intSV (l.filter fun x => !(p x)))] := contract Γ hm 100 F291 Tryz.ntmps291 rfl fun F hF => by
  have qi := indexFuncS_Int l p f first cap hc hf hl
  unfold Short at hl
  have hin : ∀ x : Int, innL [] (first ++ [intSV x] ++ cap) = true := fun x => clo_inn hc rfl
  (conv=>whnf)
  refine callK [0] qi F321 rfl (.cons (.row rfl rfl) (.cons (.refl _) .nil)) (by simp only [innL, hc, Bool.and_true]; rfl) rfl rfl ?_
  rcases idxI_cases p l with ⟨h1, h2⟩ | ⟨i, hi, h1, h2, h3⟩
  · rw [h1]
    have e1 : (l.filter fun x => !(p x)) = l := List.filter_eq_self.2 (fun x hx => by simp [h2 x hx])
    rw [e1]
    (refine rg ?_;(conv=>whnf);refine aT ?_;refine rg ?_;(conv=>whnf))
    refine G_move 0 1000 [0, 4] rfl rfl (by decide) (by simp; exact ⟨rfl, rfl⟩) ?_
    exact done rfl (.cons .tmp .nil) [(0, 0), (1, 1000)] _ (fun _ h => h) rfl rfl ⟨trivial, ⟨.inl rfl, rfl, .inl rfl, rfl, trivial⟩, rfl, rfl⟩
  obtain ⟨f1, f2⟩ := dfC_first (fun x => !(p x)) l i (by omega) (fun k hk hki => by simp [h3 k hk hki])
  have g1 : dfC (fun x => !(p x)) l (i + 1 + 0) = l := by
    show dfC (fun x => !(p x)) l (i + 1) = l
    simp only [dfC, List.getElem?_eq_getElem hi]
    rw [if_neg (by simp [h2]), f1]
  have g2 : cntK (fun x => !(p x)) l (i + 1 + 0) = i := by
    show cntK (fun x => !(p x)) l (i + 1) = i
    simp only [cntK, List.getElem?_eq_getElem hi]
    rw [if_neg (by simp [h2]), f2]
  rw [h1]
  (refine rg ?_;(conv=>whnf);refine aF ?_;refine rg ?_;(conv=>whnf))
  refine ⟨by unfold I64; omega, ?_⟩
  (conv=>whnf)
  refine G_count (l.length - (i + 1)) (fun j => [(0, .osl 0), (1, .clo (.func f) first cap), (5, intSV (cntK (fun x => !(p x)) l (i + 1 + j))), (6, intSV ((i + 1 + j : Nat)))]) (fun j => [(0, .row 1 intSV (dfC (fun x => !(p x)) l (i + 1 + j)))]) []
    ⟨⟨rfl, rfl, ren_id _, hc0, congrArg intSV (congrArg Int.ofNat g2), rfl, congrArg (fun z => SV.val (.int .i64 z)) (by omega), rfl, trivial⟩, ⟨.inl (congrArg (Ob.row 1 intSV) g1), rfl, trivial⟩, rfl, rfl⟩ ?_
  intro j hj
  have hcl := cntK_le (fun x => !(p x)) l (i + 1 + j)
  have hdl := dfC_length (fun x => !(p x)) l (i + 1 + j)
  have hget := dfC_get (fun x => !(p x)) l (i + 1 + j) (i + 1 + j) (Nat.le_refl _)
  have s1 : ∀ h : i + 1 + j < l.length, cntK (fun x => !(p x)) l (i + 1 + (j + 1)) = if (!(p l[i + 1 + j])) = true then cntK (fun x => !(p x)) l (i + 1 + j) + 1 else cntK (fun x => !(p x)) l (i + 1 + j) := fun hlt => by
    show cntK (fun x => !(p x)) l (i + 1 + j + 1) = _
    simp only [cntK, List.getElem?_eq_getElem hlt]
  have s2 : ∀ h : i + 1 + j < l.length, dfC (fun x => !(p x)) l (i + 1 + (j + 1)) = if (!(p l[i + 1 + j])) = true then (dfC (fun x => !(p x)) l (i + 1 + j)).set (cntK (fun x => !(p x)) l (i + 1 + j)) l[i + 1 + j] else dfC (fun x => !(p x)) l (i + 1 + j) := fun hlt => by
    show dfC (fun x => !(p x)) l (i + 1 + j + 1) = _
    simp only [dfC, List.getElem?_eq_getElem hlt]
  have htk := fun h => dfC_take (fun x => !(p x)) l (i + 1 + j) h
  obtain ⟨D, hD⟩ : ∃ D, dfC (fun x => !(p x)) l (i + 1 + j) = D := ⟨_, rfl⟩
  obtain ⟨K, hK⟩ : ∃ K, cntK (fun x => !(p x)) l (i + 1 + j) = K := ⟨_, rfl⟩
  rw [hD] at hdl hget s2 htk ⊢
  rw [hK] at hcl s1 s2 htk ⊢
  (refine rg ?_;(conv=>whnf))
  refine ⟨fun h => ?_, fun h => ?_⟩
  · have hlt : i + 1 + j < l.length := by have := of_decide_eq_true h; omega
    have hfx := hf l[i + 1 + j] (List.getElem_mem hlt)
    have s1 := s1 hlt
    have s2 := s2 hlt
    rw [List.getElem?_eq_getElem hlt, List.getElem?_eq_getElem (by omega)] at hget
    have hget := Option.some.inj hget
    obtain ⟨x, hx⟩ : ∃ x, l[i + 1 + j] = x := ⟨_, rfl⟩
    rw [hx] at hfx s1 s2 hget
    (refine rg ?_;(conv=>whnf))
    refine ⟨by omega, by simp; omega, ?_⟩
    (conv=>whnf)
    refine ⟨rfl, by omega, ?_⟩
    rw [show D[((i + 1 + j : Nat) : Int).toNat]'(by omega) = x from hget]
    (conv=>whnf)
    refine callC hfx rfl rfl rfl (by simp only [hin]; rfl) rfl rfl ?_
    cases hpx : p x
    · rw [hpx] at s1 s2
      (refine rg ?_;(conv=>whnf);refine aT ?_;refine rg ?_;(conv=>whnf))
      refine ⟨by omega, by simp; omega, ?_⟩
      (conv=>whnf)
      refine ⟨rfl, by omega, x, rfl, rfl, ?_⟩
      (conv=>whnf)
      refine ⟨by unfold I64; omega, ?_⟩
      (conv=>whnf)
      refine ⟨by unfold I64; omega, ?_⟩
      (conv=>whnf)
      exact G_next [] (by omega) ⟨⟨rfl, rfl, ren_id _, hc0, congrArg intSV (congrArg Int.ofNat s1), rfl, congrArg (fun z => SV.val (.int .i64 z)) (by omega), rfl, trivial⟩, ⟨.inl (congrArg (Ob.row 1 intSV) s2), rfl, trivial⟩, rfl, rfl⟩
    · rw [hpx] at s1 s2
      (refine rg ?_;(conv=>whnf);refine aF ?_;refine rg ?_;(conv=>whnf))
      refine ⟨by unfold I64; omega, ?_⟩
      (conv=>whnf)
      exact G_next [] (by omega) ⟨⟨rfl, rfl, ren_id _, hc0, congrArg intSV (congrArg Int.ofNat s1), rfl, congrArg (fun z => SV.val (.int .i64 z)) (by omega), rfl, trivial⟩, ⟨.inl (congrArg (Ob.row 1 intSV) s2), rfl, trivial⟩, rfl, rfl⟩
  · have hend : i + 1 + j = l.length := by have := of_decide_eq_false h; omega
    have hne : D ≠ [] := fun h => by rw [h] at hdl; simp at hdl; omega
    have htk := htk (by omega)
    rw [show l.take (i + 1 + j) = l from List.take_of_length_le (by omega)] at htk
    refine G_pin 0 [0] rfl hne (by simp; rfl) ?_
    intro b cap' hcap
    (refine rg ?_;(conv=>whnf))
    refine stepOp (good_slice_v Γ.toTy rfl rfl rfl rfl (.inr ⟨_, _, rfl, rfl⟩) (.inl ⟨rfl, rfl⟩) (by omega) (by omega)) rfl rfl ?_
    (refine rg ?_;(conv=>whnf))
    refine stepOp (good_clear_pin Γ.toTy 0 (k := K) rfl rfl rfl rfl (by decide) rfl rfl rfl (by omega) (by omega)) rfl rfl ?_
    (refine rg ?_;(conv=>whnf))
    refine stepOp (good_slice_v Γ.toTy rfl rfl rfl rfl (.inl ⟨rfl, rfl⟩) (.inr ⟨_, _, rfl, rfl⟩) (by omega) (by omega)) rfl rfl ?_
    (refine rg ?_;(conv=>whnf))
    refine G_unpin 0 1000 [4] K rfl rfl (by rw [List.length_take]; omega) (fun i hi => ?_) ?_
    · rw [List.mem_singleton] at hi
      subst hi
      show SV.val (.slice (some (if cap' = 0 then ⟨b, 0, none⟩ else ⟨b, 0 * 1, none⟩)) (K - 0) (cap' - 0)) = _
      split <;> simp
    refine done rfl (.cons .tmp .nil) [(0, 0), (1, 1000)] _ (fun _ h => h) rfl rfl ⟨trivial, ⟨.inl rfl, rfl, .inl ?_, rfl, trivial⟩, rfl, rfl⟩
    rw [← htk]
    exact congrArg (Ob.row 1 intSV) (by rw [List.take_take, Nat.min_self])
def roomSV (n : Net) (fw : List Bool) (at_ from_ : Int) (ml : List Int) : SV :=
  .agg [.sl 5 deviceSV n.devices, .sl 7 portSV n.ports, .sl 3 linkSV n.links, .sl 6 domainSV n.domains, .sl 4 staticSV n.statics, .sl 4 floodSV n.floods, .sl 5 vrfSV n.vrfs, .sl 5 irbSV n.irbs, .sl 1 boolSV fw, intSV at_, intSV from_, .sl 1 intSV ml]
theorem usableS (n : Net) (fw : List Bool) (p : Int) (h0 : 0 ≤ p) (hp : p < n.ports.length) (hl : (nth n.ports p).link < fw.length) : Sy.Spec Tryz.prog 290 [netSV n, .sl 1 boolSV fw, intSV p] [] (boolSV (usableB n fw p)) [] := contract Γ hm 100 F290 Tryz.ntmps290 rfl fun F hF => by
  have hk : p.toNat < n.ports.length := by omega
  have e1 : nth n.ports p = n.ports[p.toNat] := nth_eq hk
  have hu := usableB.eq_1 n fw p
  generalize usableB n fw p = res at *
  rw [e1] at hu hl
  obtain ⟨q, hq⟩ : ∃ q, n.ports[p.toNat]'hk = q := ⟨_, rfl⟩
  rw [hq] at hu hl
  (conv=>whnf)
  refine ⟨rfl, h0, hk, ?_⟩
  rw [hq]
  (conv=>whnf)
  refine ⟨fun h => ?_, fun h => ?_⟩
  · rw [h, Bool.true_or] at hu
    subst hu
    (refine rg ?_;(conv=>whnf))
    exact done0 rfl (.cons .tmp .nil) rfl rfl
  · rw [h, Bool.false_or] at hu
    have h1 : ¬ q.link < 0 := of_decide_eq_false h
    have h2 : q.link.toNat < fw.length := by omega
    rw [List.getElem?_eq_getElem h2] at hu
    (refine rg ?_;(conv=>whnf))
    refine ⟨rfl, by omega, h2, ?_⟩
    (conv=>whnf)
    exact done0 rfl (.cons .tmp .nil) (congrArg boolSV hu) rfl
theorem portsC (n : Net) (fw : List Bool) (at_ from_ : Int) (ml : List Int) (p : Int) (h0 : 0 ≤ p) (hp : p < n.ports.length) (hl : (nth n.ports p).link < fw.length) :
    Sy.Spec Tryz.prog 289 [intSV p, .ref 1 (.ref 12 (roomSV n fw at_ from_ ml) 0) 0] [] (boolSV (decide (p = from_) || !(usableB n fw p))) [] := contract Γ hm 100 F289 Tryz.ntmps289 rfl fun F hF => by
  have q := usableS n fw p h0 hp hl
  (conv=>whnf)
  refine ⟨fun h => ?_, fun h => ?_⟩
  · have h1 : p = from_ := by simpa using h
    (refine rd (by kernel_rfl) ?_;(conv=>whnf))
    refine ⟨(by kernel_rfl), ?_⟩
    (conv=>whnf)
    exact done0 rfl (.cons .tmp .nil) (congrArg boolSV (by rw [decide_eq_true h1, Bool.true_or])) rfl
  · have h1 : ¬ p = from_ := by simpa using h
    (refine rd (by kernel_rfl) ?_;(conv=>whnf))
    refine callD0 q F290 rfl rfl rfl (by kernel_rfl) rfl ?_
    (refine rd (by kernel_rfl) ?_;(conv=>whnf))
    refine ⟨(by kernel_rfl), ?_⟩
    (conv=>whnf)
    exact done0 rfl (.cons .tmp .nil) (congrArg boolSV (by rw [decide_eq_false h1, Bool.false_or])) rfl
end Go.Sy.YtmelpejjondedaaGreat

namespace Go.Sy.YtmelpejjondedaaGreat
open Go.Proofs
attribute [local irreducible] Go.Sy.G Go.Sy.DR
set_option maxRecDepth 100000
set_option maxHeartbeats 4000000
def PortsIn (n : Net) (fw : List Bool) (l : List Int) : Prop := ∀ p ∈ l, 0 ≤ p ∧ p < n.ports.length ∧ (nth n.ports p).link < fw.length
theorem portsS (n : Net) (fw : List Bool) (at_ from_ : Int) (ml l : List Int) (hl : Short l) (hp : PortsIn n fw l) :
    Sy.Spec Tryz.prog 241 [.ref 12 (roomSV n fw at_ from_ ml) 0, .sl 1 intSV l] [] (.sl 1 intSV (portsOut n fw from_ l)) [] := contract Γ hm 100 F241 Tryz.ntmps241 rfl fun F hF => by
  have q := deleteFuncS_Int l (fun p => decide (p = from_) || !(usableB n fw p)) 289 [] [.ref 1 (.ref 12 (roomSV n fw at_ from_ ml) 0) 0] rfl rfl (fun p h => ⟨⟨_, _, F289⟩, portsC n fw at_ from_ ml p (hp p h).1 (hp p h).2.1 (hp p h).2.2⟩) hl
  unfold Short at hl
  (conv=>whnf)
  refine G_box 2 1 (.ref 12 (roomSV n fw at_ from_ ml) 0) rfl rfl rfl ?_
  (refine rg ?_;(conv=>whnf))
  refine stepOp (good_call [(0, 55)] rfl F95 (cloneRowIntS l hl) rfl trivial rfl ⟨.inr rfl, trivial⟩) rfl rfl ?_
  (refine rg ?_;(conv=>whnf))
  refine stepOp (good_call [(0, 55), (1, 56)] rfl F291 q rfl ⟨rfl, trivial⟩ rfl ⟨.inl rfl, .inr rfl, trivial⟩) rfl rfl ?_
  (refine rg ?_;(conv=>whnf))
  refine G_data 56 rfl ?_
  exact done0 rfl (.cons .tmp .nil) rfl rfl
theorem peersS2 (n : Net) (hn : n.Fin) (fw : List Bool) (dom from_ : Int) (ml : List Int) (hd : placeB dom n.domains.length = true) :
    Sy.Spec Tryz.prog 242 [.ref 12 (roomSV n fw dom from_ ml) 0] [] (.sl 1 intSV (peersOut n dom from_)) [] := contract Γ hm 100 F242 Tryz.ntmps242 rfl fun F hF => by
  have hdi := placeB_in2 hd
  have hd0 : 0 ≤ dom := hdi.1
  have hkd : dom.toNat < n.domains.length := by omega
  have e2 : nth n.domains dom = n.domains[dom.toNat] := nth_eq hkd
  have hpe := hn.peers _ (List.getElem_mem hkd)
  have hres := peersOut.eq_1 n dom from_
  generalize peersOut n dom from_ = res at *
  rw [e2] at hres
  obtain ⟨d, hdd⟩ : ∃ d, n.domains[dom.toNat]'hkd = d := ⟨_, rfl⟩
  rw [hdd] at hres hpe
  have qc := cloneIntS d.peers hpe
  (conv=>whnf)
  refine ⟨fun h => ?_, fun h => ?_⟩
  · rw [if_pos (by simpa using h)] at hres
    subst hres
    (refine rg ?_;(conv=>whnf))
    refine G_nilsl 2 1 intSV rfl ?_
    exact done0 rfl (.cons .tmp .nil) rfl rfl
  · rw [if_neg (by simpa using h)] at hres
    subst hres
    (refine rg ?_;(conv=>whnf))
    refine ⟨rfl, hd0, hkd, ?_⟩
    rw [hdd]
    (conv=>whnf)
    refine callD0 qc F95 rfl rfl rfl (by kernel_rfl) rfl ?_
    (refine rd (by kernel_rfl) ?_;(conv=>whnf))
    refine ⟨(by kernel_rfl), ?_⟩
    (conv=>whnf)
    exact done0 rfl (.cons .tmp .nil) rfl rfl
def baseB (n : Net) (fw : List Bool) (dom : Int) : Bool := placeB dom n.domains.length && decide (fw.length = n.links.length) && netRightB n
theorem roomBad (n : Net) (hn : n.Fin) (fw : List Bool) (dom from_ : Int) (h : baseB n fw dom = false) :
    Sy.Spec Tryz.prog 240 [netSV n, .sl 1 boolSV fw, intSV dom, intSV from_] [] (.tup [.val (.pointer none), boolSV false]) [] := contract Γ hm 100 F240 Tryz.ntmps240 rfl fun F hF => by
  have qr := namesRightS n hn
  (conv=>whnf)
  refine ⟨fun h1 => ?_, fun h1 => ?_⟩
  · (refine rg ?_;(conv=>whnf);refine aT ?_;refine rg ?_;(conv=>whnf);refine aT ?_;refine rg ?_;(conv=>whnf);refine aT ?_;refine rg ?_;(conv=>whnf))
    exact done0 rfl (.cons .tmp (.cons .tmp .nil)) rfl rfl
  (refine rg ?_;(conv=>whnf))
  refine ⟨fun h2 => ?_, fun h2 => ?_⟩
  · (refine rg ?_;(conv=>whnf);refine aT ?_;refine rg ?_;(conv=>whnf);refine aT ?_;refine rg ?_;(conv=>whnf))
    exact done0 rfl (.cons .tmp (.cons .tmp .nil)) rfl rfl
  (refine rg ?_;(conv=>whnf))
  refine ⟨fun h3 => ?_, fun h3 => ?_⟩
  · (refine rg ?_;(conv=>whnf);refine aT ?_;refine rg ?_;(conv=>whnf))
    exact done0 rfl (.cons .tmp (.cons .tmp .nil)) rfl rfl
  (refine rg ?_;(conv=>whnf))
  refine call0 qr F67 rfl rfl rfl rfl rfl ?_
  cases hbn : netRightB n
  · (refine rg ?_;(conv=>whnf);refine aT ?_;refine rg ?_;(conv=>whnf))
    exact done0 rfl (.cons .tmp (.cons .tmp .nil)) rfl rfl
  · exfalso
    have h4 : placeB dom n.domains.length = true := placeB_true ⟨by simp at h1; omega, by simp at h2; omega⟩
    have h5 : fw.length = n.links.length := by simp at h3; omega
    simp [baseB, h4, h5, hbn] at h
theorem roomOk (n : Net) (hn : n.Fin) (fw : List Bool) (dom from_ : Int) (h : baseB n fw dom = true) :
    Sy.Spec Tryz.prog 240 [netSV n, .sl 1 boolSV fw, intSV dom, intSV from_] [] (.tup [.ref 12 (roomSV n fw dom from_ (membersL n dom)) 0, boolSV (decide (from_ = -1) || decide (from_ = -2) || inB (membersL n dom) from_)]) [] := contract Γ hm 100 F240 Tryz.ntmps240 rfl fun F hF => by
  have qr := namesRightS n hn
  simp only [baseB, Bool.and_eq_true, decide_eq_true_eq] at h
  obtain ⟨⟨hd, hfw⟩, hbn⟩ := h
  rw [hbn] at qr
  have hdi := placeB_in2 hd
  have qm := namesMembersS n hn dom
  have qc := containsS (membersT n dom) from_ (membersT_short n hn dom)
  have hmt : membersT n dom = membersL n dom := by rw [membersT, if_pos ⟨⟨hdi.1, hdi.2⟩, hbn⟩]
  rw [hmt] at qm qc
  generalize membersL n dom = ml at *
  (conv=>whnf)
  refine ⟨fun h1 => absurd h1 (by simp; omega), fun _ => ?_⟩
  (refine rg ?_;(conv=>whnf))
  refine ⟨fun h1 => absurd h1 (by simp; omega), fun _ => ?_⟩
  (refine rg ?_;(conv=>whnf))
  refine ⟨fun h1 => absurd h1 (by simp; omega), fun _ => ?_⟩
  (refine rg ?_;(conv=>whnf))
  refine call0 qr F67 rfl rfl rfl rfl rfl ?_
  (refine rg ?_;(conv=>whnf);refine aF ?_;refine rg ?_;(conv=>whnf))
  refine callD0 qm F288 rfl rfl rfl (by kernel_rfl) rfl ?_
  (refine rd (by kernel_rfl) ?_;(conv=>whnf))
  refine ⟨(by kernel_rfl), ?_⟩
  (conv=>whnf)
  refine ⟨fun h1 => ?_, fun h1 => ?_⟩
  · have h2 : from_ = -1 := by simpa using h1
    refine G_box 41 12 (roomSV n fw dom from_ ml) rfl rfl rfl ?_
    (refine rg ?_;(conv=>whnf);refine aT ?_;refine rg ?_;(conv=>whnf))
    exact done0 rfl (.cons .tmp (.cons .tmp .nil)) (congrArg (fun z => SV.tup [_, boolSV z]) (by simp [h2])) rfl
  have h2 : ¬ from_ = -1 := by simpa using h1
  refine G_box 41 12 (roomSV n fw dom from_ ml) rfl rfl rfl ?_
  (refine rg ?_;(conv=>whnf))
  refine ⟨fun h3 => ?_, fun h3 => ?_⟩
  · have h4 : from_ = -2 := by simpa using h3
    (refine rg ?_;(conv=>whnf))
    exact done0 rfl (.cons .tmp (.cons .tmp .nil)) (congrArg (fun z => SV.tup [_, boolSV z]) (by simp [h4])) rfl
  have h4 : ¬ from_ = -2 := by simpa using h3
  (refine rg ?_;(conv=>whnf))
  refine call0 qc F86 rfl rfl rfl rfl rfl ?_
  (refine rg ?_;(conv=>whnf))
  exact done0 rfl (.cons .tmp (.cons .tmp .nil)) (congrArg (fun z => SV.tup [_, boolSV z]) (by simp [h2, h4])) rfl
end Go.Sy.YtmelpejjondedaaGreat

namespace Go.Sy.YtmelpejjondedaaGreat
open Go.Proofs
attribute [local irreducible] Go.Sy.G Go.Sy.DR
set_option maxRecDepth 100000
set_option maxHeartbeats 4000000
theorem port_link_lt {n : Net} (hb : netRightB n = true) {p : Int} (h0 : 0 ≤ p) (hp : p < n.ports.length) : (nth n.ports p).link < n.links.length := by
  have hk : p.toNat < n.ports.length := by omega
  have e1 : nth n.ports p = n.ports[p.toNat] := nth_eq hk
  rw [e1]
  by_cases hl : 0 ≤ n.ports[p.toNat].link
  · have := e_port_link hb hk hl
    omega
  · omega
theorem ports_in {n : Net} {fw : List Bool} (hb : netRightB n = true) (hf : fw.length = n.links.length) {l : List Int} (h : ∀ p ∈ l, 0 ≤ p ∧ p < n.ports.length) : PortsIn n fw l := fun p hp =>
  ⟨(h p hp).1, (h p hp).2, by rw [hf]; exact port_link_lt hb (h p hp).1 (h p hp).2⟩
theorem members_ports {n : Net} {dom : Int} : ∀ p ∈ membersL n dom, 0 ≤ p ∧ p < n.ports.length := fun p hp => by
  rw [membersL, filtI_mem] at hp
  exact ⟨hp.1, hp.2.1⟩
theorem members_short {n : Net} (hn : n.Fin) (dom : Int) : Short (membersL n dom) := by
  have h1 := filtI_length (inDom n (nth n.domains dom)) n.ports.length
  have h2 := hn.ports
  unfold Short at *
  rw [membersL]
  omega
theorem roomB_split (n : Net) (fw : List Bool) (dom from_ : Int) : roomB n fw dom from_ = (baseB n fw dom && (decide (from_ = -1) || decide (from_ = -2) || inB (membersL n dom) from_)) := rfl
theorem floodS (n : Net) (hn : n.Fin) (fw : List Bool) (dom from_ : Int) :
    Sy.Spec Tryz.prog 171 [netSV n, .sl 1 boolSV fw, intSV dom, intSV from_] [] (.tup [.sl 1 intSV (floodT n fw dom from_).1, .sl 1 intSV (floodT n fw dom from_).2.1, intSV (floodT n fw dom from_).2.2]) [] := contract Γ hm 100 F171 Tryz.ntmps171 rfl fun F hF => by
  have hres := floodT.eq_1 n fw dom from_
  generalize floodT n fw dom from_ = res at *
  rw [roomB_split] at hres
  cases hbase : baseB n fw dom
  · rw [hbase, Bool.false_and, if_pos rfl] at hres
    subst hres
    have q := roomBad n hn fw dom from_ hbase
    (conv=>whnf)
    refine call0 q F240 rfl rfl rfl rfl rfl ?_
    (refine rg ?_;(conv=>whnf);refine aT ?_;refine rg ?_;(conv=>whnf))
    refine G_nilsl 8 1 intSV rfl ?_
    refine G_nilsl 9 1 intSV rfl ?_
    exact done0 rfl (.cons .tmp (.cons .tmp (.cons .tmp .nil))) rfl rfl
  rw [hbase, Bool.true_and] at hres
  have q := roomOk n hn fw dom from_ hbase
  have hb2 := hbase
  simp only [baseB, Bool.and_eq_true, decide_eq_true_eq] at hb2
  obtain ⟨⟨hd, hfw⟩, hbn⟩ := hb2
  have qp := portsS n fw dom from_ (membersL n dom) (membersL n dom) (members_short hn dom) (ports_in hbn hfw members_ports)
  have qe := peersS2 n hn fw dom from_ (membersL n dom) hd
  generalize (decide (from_ = -1) || decide (from_ = -2) || inB (membersL n dom) from_) = ok at *
  generalize membersL n dom = ml at *
  (conv=>whnf)
  refine call0 q F240 rfl rfl rfl rfl rfl ?_
  cases ok
  · rw [if_pos rfl] at hres
    subst hres
    (refine rg ?_;(conv=>whnf);refine aT ?_;refine rg ?_;(conv=>whnf))
    refine G_nilsl 8 1 intSV rfl ?_
    refine G_nilsl 9 1 intSV rfl ?_
    exact done0 rfl (.cons .tmp (.cons .tmp (.cons .tmp .nil))) rfl rfl
  rw [if_neg (by decide)] at hres
  subst hres
  (refine rg ?_;(conv=>whnf);refine aF ?_;refine rg ?_;(conv=>whnf))
  refine call0 qp F241 rfl rfl rfl rfl rfl ?_
  (refine rg ?_;(conv=>whnf))
  refine call0 qe F242 rfl rfl rfl rfl rfl ?_
  (refine rg ?_;(conv=>whnf))
  exact done0 rfl (.cons .tmp (.cons .tmp (.cons .tmp .nil))) rfl rfl
end Go.Sy.YtmelpejjondedaaGreat

namespace Go.Sy.YtmelpejjondedaaGreat
open Go.Proofs
attribute [local irreducible] Go.Sy.G Go.Sy.DR
set_option maxRecDepth 100000
set_option maxHeartbeats 4000000
theorem indexFuncS_Static (l : List Static) (p : Static → Bool) (f : FuncId) (first cap : List SV) (hc : (SV.clo (.func f) first cap).inn [] = true) (hf : ∀ x ∈ l, FunS Tryz.prog f (first ++ [staticSV x] ++ cap) (boolSV (p x))) (hl : Short l) :
    Sy.Spec Tryz.prog 346 [.sl 4 staticSV l, .clo (.func f) first cap] [] (intSV (idxI p l)) [] := contract Γ hm 100 F346 Tryz.ntmps346 rfl fun F hF => by
  unfold Short at hl
  have hin : ∀ x : Static, innL [] (first ++ [staticSV x] ++ cap) = true := fun x => clo_inn hc rfl
  (conv=>whnf)
  refine G_countP l.length (fun j => Upto (fun _ x => !(p x)) l j) (fun j => [(0, .sl 4 staticSV l), (1, .clo (.func f) first cap), (7, intSV l.length), (8, intSV j)]) (fun _ => []) [] (upto_zero _ _) ⟨⟨rfl, rfl, ren_id _, hc, rfl, rfl, rfl, rfl, trivial⟩, trivial, rfl, rfl⟩ ?_
  intro j hj hI
  (refine rg ?_;(conv=>whnf))
  refine ⟨fun h => ?_, fun h => ?_⟩
  · have h := of_decide_eq_true h
    have hj2 : j < l.length := by omega
    (refine rg ?_;(conv=>whnf))
    refine ⟨rfl, by omega, by omega, ?_⟩
    (conv=>whnf)
    refine callC (hf l[j] (List.getElem_mem hj2)) rfl rfl rfl (by simp only [hin]; rfl) rfl rfl ?_
    (refine rg ?_;(conv=>whnf))
    refine ⟨fun h2 => ?_, fun h2 => ?_⟩
    · (refine rg ?_;(conv=>whnf))
      refine done0 rfl (.cons .tmp .nil) (congrArg intSV ?_) rfl
      exact idxI_found hj2 (fun i hi hij => by simpa using hI i hi hij) h2
    · (refine rg ?_;(conv=>whnf))
      refine ⟨by unfold I64; omega, ?_⟩
      (conv=>whnf)
      exact G_nextP [] hI hj2 (upto_next hI hj2 (by simp [h2])) ⟨⟨rfl, rfl, ren_id _, hc, rfl, rfl, rfl, rfl, trivial⟩, trivial, rfl, rfl⟩
  · have h := of_decide_eq_false h
    (refine rg ?_;(conv=>whnf))
    refine done0 rfl (.cons .tmp .nil) (congrArg intSV ?_) rfl
    exact idxI_none (fun i hi => by simpa using hI i hi (by omega))
theorem entryC (dom : Int) (m : Nat) (s : Static) : Sy.Spec Tryz.prog 347 [staticSV s, .ref 1 (intSV dom) 0, .ref 1 (u64SV m) 0] [] (boolSV (decide (s.domain = dom) && decide (s.mac = (m : Int)))) [] := contract Γ hm 100 F347 Tryz.ntmps347 rfl fun F hF => by
  (conv=>whnf)
  refine ⟨fun h => ?_, fun h => ?_⟩
  · (refine rg ?_;(conv=>whnf))
    refine done0 rfl (.cons .tmp .nil) (congrArg boolSV ?_) rfl
    have h1 : s.domain = dom := by simpa using h
    rw [decide_eq_true h1, Bool.true_and, Bool.eq_iff_iff]
    simp
  · (refine rg ?_;(conv=>whnf))
    refine done0 rfl (.cons .tmp .nil) (congrArg boolSV ?_) rfl
    have h1 : ¬ s.domain = dom := by simpa using h
    rw [decide_eq_false h1, Bool.false_and]
theorem entryI (n : Net) (hn : n.Fin) (dom : Int) (m : Nat) : Sy.Spec Tryz.prog 333 [netSV n, intSV dom, u64SV m] [] (intSV (staticI n dom m)) [] := contract Γ hm 100 F333 Tryz.ntmps333 rfl fun F hF => by
  have q := indexFuncS_Static n.statics (fun s : Static => decide (s.domain = dom) && decide (s.mac = (m : Int))) 347 [] [.ref 1 (intSV dom) 0, .ref 1 (u64SV m) 0] rfl (fun x _ => ⟨⟨_, _, F347⟩, entryC dom m x⟩) hn.statics
  (conv=>whnf)
  refine G_box 4 1 (intSV dom) rfl rfl rfl ?_
  refine G_box 5 1 (u64SV m) rfl rfl rfl ?_
  (refine rg ?_;(conv=>whnf))
  refine call0 q F346 rfl rfl rfl rfl rfl ?_
  (refine rg ?_;(conv=>whnf))
  exact done0 rfl (.cons .tmp .nil) rfl rfl
def staticP (n : Net) (dom : Int) (m : Nat) : Int := if 0 ≤ staticI n dom m then (nth n.statics (staticI n dom m)).port else -1
theorem domLookupS (n : Net) (hn : n.Fin) (hb : netRightB n = true) (dom : Int) (m : Nat) : Sy.Spec Tryz.prog 306 [netSV n, intSV dom, u64SV m] [] (intSV (staticP n dom m)) [] := contract Γ hm 100 F306 Tryz.ntmps306 rfl fun F hF => by
  have q := entryI n hn dom m
  have qr := namesRightS n hn
  rw [hb] at qr
  have hlt : staticI n dom m < n.statics.length := idxI_lt _ _
  have hres := staticP.eq_1 n dom m
  generalize staticP n dom m = res at *
  generalize staticI n dom m = i at *
  (conv=>whnf)
  refine call0 q F333 rfl rfl rfl rfl rfl ?_
  (refine rg ?_;(conv=>whnf))
  refine ⟨fun h => ?_, fun h => ?_⟩
  · rw [if_neg (by simp at h; omega)] at hres
    subst hres
    (refine rg ?_;(conv=>whnf);refine aT ?_;refine rg ?_;(conv=>whnf))
    exact done0 rfl (.cons .tmp .nil) rfl rfl
  · have h0 : 0 ≤ i := by simp at h; omega
    have hk : i.toNat < n.statics.length := by omega
    have e1 : nth n.statics i = n.statics[i.toNat] := nth_eq hk
    rw [if_pos h0, e1] at hres
    (refine rg ?_;(conv=>whnf))
    refine call0 qr F67 rfl rfl rfl rfl rfl ?_
    (refine rg ?_;(conv=>whnf);refine aF ?_;refine rg ?_;(conv=>whnf))
    refine ⟨rfl, h0, hk, ?_⟩
    (conv=>whnf)
    exact done0 rfl (.cons .tmp .nil) (congrArg intSV hres) rfl
end Go.Sy.YtmelpejjondedaaGreat

namespace Go.Sy.YtmelpejjondedaaGreat
open Go.Proofs
attribute [local irreducible] Go.Sy.G Go.Sy.DR
set_option maxRecDepth 100000
set_option maxHeartbeats 4000000
def knownT (n : Net) (fw : List Bool) (t : List EntryM) (dom from_ : Int) (m : Nat) : List Int × List Int × Bool :=
  if 0 ≤ staticP n dom m then (portsOut n fw from_ [staticP n dom m], [], true)
  else if (findE t m).2 = false then ([], [], false)
  else if 0 ≤ (findE t m).1 ∧ inB (membersL n dom) (findE t m).1 = true then (portsOut n fw from_ [(findE t m).1], [], true)
  else if (findE t m).1 < 0 ∧ inB (nth n.domains dom).peers (-1 - (findE t m).1) = true then (if from_ = -1 then ([], [], true) else ([], [-1 - (findE t m).1], true))
  else ([], [], false)
theorem static_port {n : Net} (hb : netRightB n = true) (dom : Int) (m : Nat) (h : 0 ≤ staticP n dom m) : staticP n dom m < n.ports.length := by
  unfold staticP at h ⊢
  split at h
  · rename_i h0
    rw [if_pos h0]
    have hlt : staticI n dom m < n.statics.length := idxI_lt _ _
    have hk : (staticI n dom m).toNat < n.statics.length := by omega
    simp only [netRightB, Bool.and_eq_true] at hb
    have := allB_iff.1 hb.1.1.1.2 _ hk
    simp only [staticB, Bool.and_eq_true, placeB, decide_eq_true_eq] at this
    rw [nth_eq hk]
    exact this.1.1.2.2
  · omega
theorem knownS (n : Net) (hn : n.Fin) (fw : List Bool) (t : List EntryM) (dom from_ : Int) (m : Nat) (hl : Short t) (hw : I64 (-1 - (findE t m).1)) (hbase : baseB n fw dom = true) :
    Sy.Spec Tryz.prog 249 [.ref 12 (roomSV n fw dom from_ (membersL n dom)) 0, .sl 3 entrySV t, u64SV m] [] (.tup [.sl 1 intSV (knownT n fw t dom from_ m).1, .sl 1 intSV (knownT n fw t dom from_ m).2.1, boolSV (knownT n fw t dom from_ m).2.2]) [] := contract Γ hm 100 F249 Tryz.ntmps249 rfl fun F hF => by
  simp only [baseB, Bool.and_eq_true, decide_eq_true_eq] at hbase
  obtain ⟨⟨hd, hfw⟩, hbn⟩ := hbase
  have hdi := placeB_in2 hd
  have hd0 : 0 ≤ dom := hdi.1
  have hkd : dom.toNat < n.domains.length := by omega
  have e2 : nth n.domains dom = n.domains[dom.toNat] := nth_eq hkd
  have hpe := hn.peers _ (List.getElem_mem hkd)
  have hres := knownT.eq_1 n fw t dom from_ m
  have qs := domLookupS n hn hbn dom m
  have hsp := static_port hbn dom m
  have qf := tabFindS t m hl
  have qp : ∀ p : Int, 0 ≤ p → p < n.ports.length → _ := fun p h0 h1 => portsS n fw dom from_ (membersL n dom) [p] (by unfold Short; simp) (ports_in hbn hfw (l := [p]) (fun x hx => by rw [List.mem_singleton] at hx; subst hx; exact ⟨h0, h1⟩))
  have hmem : ∀ p, inB (membersL n dom) p = true → 0 ≤ p ∧ p < n.ports.length := fun p hp => members_ports p (inB_mem.1 hp)
  have qc := fun x => containsS (membersL n dom) x (members_short hn dom)
  rw [e2] at hres
  obtain ⟨d, hdd⟩ : ∃ d, n.domains[dom.toNat]'hkd = d := ⟨_, rfl⟩
  rw [hdd] at hres hpe
  have qc2 := fun x => containsS d.peers x hpe
  generalize knownT n fw t dom from_ m = res at *
  generalize staticP n dom m = sp at *
  generalize findE t m = fe at *
  obtain ⟨w, ok⟩ := fe
  dsimp only at hres hw qf
  generalize membersL n dom = ml at *
  (conv=>whnf)
  refine callD0 qs F306 rfl rfl rfl (by kernel_rfl) rfl ?_
  (refine rd (by kernel_rfl) ?_;(conv=>whnf))
  refine ⟨(by kernel_rfl), ?_⟩
  (conv=>whnf)
  refine ⟨fun h1 => ?_, fun h1 => ?_⟩
  · have h2 : 0 ≤ sp := by simpa using h1
    rw [if_pos h2] at hres
    subst hres
    (refine rg ?_;(conv=>whnf))
    refine G_litR 25 intSV [sp] rfl rfl ?_
    refine G_data 25 rfl ?_
    refine call0 (qp sp h2 (hsp h2)) F241 rfl rfl rfl rfl rfl ?_
    (refine rg ?_;(conv=>whnf))
    refine G_nilsl 7 1 intSV rfl ?_
    exact done0 rfl (.cons .tmp (.cons .tmp (.cons .tmp .nil))) rfl rfl
  have h2 : ¬ 0 ≤ sp := by simp at h1; omega
  rw [if_neg h2] at hres
  (refine rg ?_;(conv=>whnf))
  refine call0 qf F307 rfl rfl rfl rfl rfl ?_
  cases ok
  · rw [if_pos rfl] at hres
    subst hres
    (refine rg ?_;(conv=>whnf);refine aT ?_;refine rg ?_;(conv=>whnf))
    refine G_nilsl 6 1 intSV rfl ?_
    refine G_nilsl 7 1 intSV rfl ?_
    exact done0 rfl (.cons .tmp (.cons .tmp (.cons .tmp .nil))) rfl rfl
  rw [if_neg (by decide)] at hres
  (refine rg ?_;(conv=>whnf);refine aF ?_;refine rg ?_;(conv=>whnf))
  refine ⟨fun h3 => ?_, fun h3 => ?_⟩
  · have h4 : 0 ≤ w := by simpa using h3
    (refine rg ?_;(conv=>whnf))
    refine call0 (qc w) F86 rfl rfl rfl rfl rfl ?_
    cases hin : inB ml w
    · rw [if_neg (by simp [hin]), if_neg (by omega)] at hres
      subst hres
      (refine rg ?_;(conv=>whnf);refine aF ?_;refine rg ?_;(conv=>whnf))
      refine ⟨fun h5 => absurd h5 (by simp; omega), fun _ => ?_⟩
      (refine rd (by kernel_rfl) ?_;(conv=>whnf))
      refine ⟨(by kernel_rfl), ?_⟩
      ((conv=>whnf);refine aF ?_;refine rg ?_;(conv=>whnf))
      refine G_nilsl 6 1 intSV rfl ?_
      refine G_nilsl 7 1 intSV rfl ?_
      exact done0 rfl (.cons .tmp (.cons .tmp (.cons .tmp .nil))) rfl rfl
    · rw [if_pos ⟨h4, hin⟩] at hres
      subst hres
      (refine rg ?_;(conv=>whnf);refine aT ?_;refine rg ?_;(conv=>whnf))
      refine G_litR 49 intSV [w] rfl rfl ?_
      refine G_data 49 rfl ?_
      refine call0 (qp w h4 (hmem w hin).2) F241 rfl rfl rfl rfl rfl ?_
      (refine rg ?_;(conv=>whnf))
      refine G_nilsl 7 1 intSV rfl ?_
      exact done0 rfl (.cons .tmp (.cons .tmp (.cons .tmp .nil))) rfl rfl
  have h4 : ¬ 0 ≤ w := by simp at h3; omega
  rw [if_neg (by omega)] at hres
  (refine rg ?_;(conv=>whnf);refine aF ?_;refine rg ?_;(conv=>whnf))
  refine ⟨fun h5 => ?_, fun h5 => absurd h5 (by simp; omega)⟩
  (refine rd (by kernel_rfl) ?_;(conv=>whnf))
  refine ⟨rfl, hd0, hkd, ?_⟩
  rw [hdd]
  (conv=>whnf)
  refine ⟨hw, ?_⟩
  (conv=>whnf)
  refine callD0 (qc2 (-1 - w)) F86 rfl rfl rfl (by kernel_rfl) rfl ?_
  cases hin : inB d.peers (-1 - w)
  · rw [if_neg (by simp [hin])] at hres
    subst hres
    (refine rd (by kernel_rfl) ?_;(conv=>whnf))
    refine ⟨(by kernel_rfl), ?_⟩
    ((conv=>whnf);refine aF ?_;refine rg ?_;(conv=>whnf))
    refine G_nilsl 6 1 intSV rfl ?_
    refine G_nilsl 7 1 intSV rfl ?_
    exact done0 rfl (.cons .tmp (.cons .tmp (.cons .tmp .nil))) rfl rfl
  rw [if_pos ⟨by omega, hin⟩] at hres
  (refine rd (by kernel_rfl) ?_;(conv=>whnf))
  refine ⟨(by kernel_rfl), ?_⟩
  ((conv=>whnf);refine aT ?_;refine rg ?_;(conv=>whnf))
  refine ⟨fun h6 => ?_, fun h6 => ?_⟩
  · rw [if_pos (by simpa using h6)] at hres
    subst hres
    (refine rg ?_;(conv=>whnf))
    refine G_nilsl 6 1 intSV rfl ?_
    refine G_nilsl 7 1 intSV rfl ?_
    exact done0 rfl (.cons .tmp (.cons .tmp (.cons .tmp .nil))) rfl rfl
  · rw [if_neg (by simpa using h6)] at hres
    subst hres
    (refine rg ?_;(conv=>whnf))
    refine ⟨hw, ?_⟩
    (conv=>whnf)
    refine G_nilsl 6 1 intSV rfl ?_
    refine G_litR 78 intSV [-1 - w] rfl rfl ?_
    refine G_data 78 rfl ?_
    exact done0 rfl (.cons .tmp (.cons .tmp (.cons .tmp .nil))) rfl rfl
end Go.Sy.YtmelpejjondedaaGreat

namespace Go.Sy.YtmelpejjondedaaGreat
open Go.Proofs
attribute [local irreducible] Go.Sy.G Go.Sy.DR
set_option maxRecDepth 100000
set_option maxHeartbeats 4000000
theorem static_there {n : Net} (hb : netRightB n = true) (dom : Int) (m : Nat) : (0 ≤ staticP n dom m ↔ 0 ≤ staticI n dom m) ∧ (0 ≤ staticI n dom m → staticP n dom m = (nth n.statics (staticI n dom m)).port) := by
  refine ⟨⟨fun h => ?_, fun h => ?_⟩, fun h => by rw [staticP, if_pos h]⟩
  · unfold staticP at h
    split at h
    · assumption
    · omega
  · rw [staticP, if_pos h]
    have hlt : staticI n dom m < n.statics.length := idxI_lt _ _
    have hk : (staticI n dom m).toNat < n.statics.length := by omega
    simp only [netRightB, Bool.and_eq_true] at hb
    have := allB_iff.1 hb.1.1.1.2 _ hk
    simp only [staticB, Bool.and_eq_true, placeB, decide_eq_true_eq] at this
    rw [nth_eq hk]
    exact this.1.1.2.1
theorem decide_known {n : Net} {fw : List Bool} {t : List EntryM} {dom from_ : Int} {m : Nat} (hb : netRightB n = true) (hr : roomB n fw dom from_ = true) (hg : groupB m = false) :
    decideT n fw t dom from_ m = if (knownT n fw t dom from_ m).2.2 = true then ((knownT n fw t dom from_ m).1, (knownT n fw t dom from_ m).2.1, 0) else (portsOut n fw from_ (membersL n dom), peersOut n dom from_, 0) := by
  obtain ⟨h1, h2⟩ := static_there hb dom m
  rw [decideT, if_neg (by rw [hr]; decide), if_neg (by rw [hg]; decide)]
  unfold knownT
  by_cases hs : 0 ≤ staticI n dom m
  · rw [if_pos hs, if_pos (h1.2 hs), h2 hs]; rfl
  rw [if_neg hs, if_neg (fun h => hs (h1.1 h))]
  generalize findE t m = fe
  obtain ⟨w, ok⟩ := fe
  cases ok
  · simp
  simp only [Bool.true_eq_false, if_false, true_and]
  by_cases ha : 0 ≤ w ∧ inB (membersL n dom) w = true
  · rw [if_pos ha, if_pos ha]; rfl
  rw [if_neg ha, if_neg ha]
  by_cases hc : w < 0 ∧ inB (nth n.domains dom).peers (-1 - w) = true
  · rw [if_pos hc, if_pos hc]
    split <;> rfl
  · rw [if_neg hc, if_neg hc]; rfl
theorem decideS (n : Net) (hn : n.Fin) (fw : List Bool) (t : List EntryM) (dom from_ : Int) (m : Nat) (hl : Short t) (hw : I64 (-1 - (findE t m).1)) (hm64 : m < 18446744073709551616) :
    Sy.Spec Tryz.prog 176 [netSV n, .sl 1 boolSV fw, .sl 3 entrySV t, intSV dom, intSV from_, u64SV m] [] (.tup [.sl 1 intSV (decideT n fw t dom from_ m).1, .sl 1 intSV (decideT n fw t dom from_ m).2.1, intSV (decideT n fw t dom from_ m).2.2]) [] := contract Γ hm 100 F176 Tryz.ntmps176 rfl fun F hF => by
  cases hbase : baseB n fw dom
  · have hres : decideT n fw t dom from_ m = ([], [], 2) := by
      rw [decideT, if_pos (by rw [roomB_split, hbase]; rfl)]
    rw [hres]
    have q := roomBad n hn fw dom from_ hbase
    (conv=>whnf)
    refine call0 q F240 rfl rfl rfl rfl rfl ?_
    (refine rg ?_;(conv=>whnf);refine aT ?_;refine rg ?_;(conv=>whnf))
    refine G_nilsl 12 1 intSV rfl ?_
    refine G_nilsl 13 1 intSV rfl ?_
    exact done0 rfl (.cons .tmp (.cons .tmp (.cons .tmp .nil))) rfl rfl
  have q := roomOk n hn fw dom from_ hbase
  have qk := knownS n hn fw t dom from_ m hl hw hbase
  have qg := macGroupS m hm64
  have hb2 := hbase
  simp only [baseB, Bool.and_eq_true, decide_eq_true_eq] at hb2
  obtain ⟨⟨hd, hfw⟩, hbn⟩ := hb2
  have qp := portsS n fw dom from_ (membersL n dom) (membersL n dom) (members_short hn dom) (ports_in hbn hfw members_ports)
  have qe := peersS2 n hn fw dom from_ (membersL n dom) hd
  have hroom := roomB_split n fw dom from_
  rw [hbase, Bool.true_and] at hroom
  have hbad : roomB n fw dom from_ = false → decideT n fw t dom from_ m = ([], [], 2) := fun h => by rw [decideT, if_pos h]
  have hgrp : roomB n fw dom from_ = true → groupB m = true → decideT n fw t dom from_ m = (portsOut n fw from_ (membersL n dom), peersOut n dom from_, 0) := fun h h2 => by
    rw [decideT, if_neg (by rw [h]; decide), if_pos h2]
  have hkn := fun h h2 => @decide_known n fw t dom from_ m hbn h h2
  generalize decideT n fw t dom from_ m = res at *
  generalize knownT n fw t dom from_ m = kn at *
  obtain ⟨kp, ke, ko⟩ := kn
  generalize roomB n fw dom from_ = rm at *
  generalize (decide (from_ = -1) || decide (from_ = -2) || inB (membersL n dom) from_) = ok at *
  subst hroom
  generalize membersL n dom = ml at *
  dsimp only at hkn qk
  (conv=>whnf)
  refine call0 q F240 rfl rfl rfl rfl rfl ?_
  cases rm
  · rw [hbad rfl]
    (refine rg ?_;(conv=>whnf);refine aT ?_;refine rg ?_;(conv=>whnf))
    refine G_nilsl 12 1 intSV rfl ?_
    refine G_nilsl 13 1 intSV rfl ?_
    exact done0 rfl (.cons .tmp (.cons .tmp (.cons .tmp .nil))) rfl rfl
  (refine rg ?_;(conv=>whnf);refine aF ?_;refine rg ?_;(conv=>whnf))
  refine call0 qg F162 rfl rfl rfl rfl rfl ?_
  cases hg : groupB m
  · have hkn := hkn rfl hg
    (refine rg ?_;(conv=>whnf);refine aT ?_;refine rg ?_;(conv=>whnf))
    refine call0 qk F249 rfl rfl rfl rfl rfl ?_
    cases ko
    · rw [if_neg (by decide)] at hkn
      subst hkn
      (refine rg ?_;(conv=>whnf);refine aF ?_;refine rg ?_;(conv=>whnf))
      refine call0 qp F241 rfl rfl rfl rfl rfl ?_
      (refine rg ?_;(conv=>whnf))
      refine call0 qe F242 rfl rfl rfl rfl rfl ?_
      (refine rg ?_;(conv=>whnf))
      exact done0 rfl (.cons .tmp (.cons .tmp (.cons .tmp .nil))) rfl rfl
    · rw [if_pos rfl] at hkn
      subst hkn
      (refine rg ?_;(conv=>whnf);refine aT ?_;refine rg ?_;(conv=>whnf))
      exact done0 rfl (.cons .tmp (.cons .tmp (.cons .tmp .nil))) rfl rfl
  · rw [hgrp rfl hg]
    (refine rg ?_;(conv=>whnf);refine aF ?_;refine rg ?_;(conv=>whnf))
    refine call0 qp F241 rfl rfl rfl rfl rfl ?_
    (refine rg ?_;(conv=>whnf))
    refine call0 qe F242 rfl rfl rfl rfl rfl ?_
    (refine rg ?_;(conv=>whnf))
    exact done0 rfl (.cons .tmp (.cons .tmp (.cons .tmp .nil))) rfl rfl
end Go.Sy.YtmelpejjondedaaGreat

namespace Go.Sy.YtmelpejjondedaaGreat
open Go.Proofs
attribute [local irreducible] Go.Sy.G Go.Sy.DR
set_option maxRecDepth 100000
set_option maxHeartbeats 4000000
end Go.Sy.YtmelpejjondedaaGreat

namespace Go.Sy.YtmelpejjondedaaGreat
open Go.Proofs
attribute [local irreducible] Go.Sy.G Go.Sy.DR
set_option maxRecDepth 100000
set_option maxHeartbeats 4000000
end Go.Sy.YtmelpejjondedaaGreat

namespace Go.Sy.YtmelpejjondedaaGreat
open Go.Proofs
attribute [local irreducible] Go.Sy.G Go.Sy.DR
set_option maxRecDepth 100000
set_option maxHeartbeats 4000000
end Go.Sy.YtmelpejjondedaaGreat

namespace Go.Sy.YtmelpejjondedaaGreat
open Go.Proofs
attribute [local irreducible] Go.Sy.G Go.Sy.DR
set_option maxRecDepth 100000
set_option maxHeartbeats 4000000
end Go.Sy.YtmelpejjondedaaGreat

namespace Go.Sy.YtmelpejjondedaaGreat
open Go.Proofs
attribute [local irreducible] Go.Sy.G Go.Sy.DR
set_option maxRecDepth 100000
set_option maxHeartbeats 4000000
end Go.Sy.YtmelpejjondedaaGreat

namespace Go.Sy.YtmelpejjondedaaGreat
open Go.Proofs
attribute [local irreducible] Go.Sy.G Go.Sy.DR
set_option maxRecDepth 100000
set_option maxHeartbeats 4000000
end Go.Sy.YtmelpejjondedaaGreat

namespace Go.Sy.YtmelpejjondedaaGreat
open Go.Proofs
attribute [local irreducible] Go.Sy.G Go.Sy.DR
set_option maxRecDepth 100000
set_option maxHeartbeats 4000000
end Go.Sy.YtmelpejjondedaaGreat
