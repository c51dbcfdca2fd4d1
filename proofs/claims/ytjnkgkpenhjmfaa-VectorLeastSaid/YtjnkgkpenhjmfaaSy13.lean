/-
  The symbolic layer, 13: straight code reckoned.
-/
import Derived.Test.YtjnkgkpenhjmfaaSy12
namespace Go.Sy

/-- The value, brought to its head. -/
def fv (x : SV) (K : SV → Prop) : Prop :=
  match x with
  | .val v => (match v with
    | .int k n => K (.val (.int k n))
    | .bool b => K (.val (.bool b))
    | .string b => K (.val (.string b))
    | v => K (.val v))
  | .agg l => K (.agg l)
  | .tup l => K (.tup l)
  | .sl sz e l => K (.sl sz e l)
  | .ref sz x o => K (.ref sz x o)
  | .ptr k o => K (.ptr k o)
  | .rpt k sz i o => K (.rpt k sz i o)
  | .osl k => K (.osl k)
  | .ifc t x => K (.ifc t x)
  | .clo f g l => K (.clo f g l)
  | .top => K .top

theorem fv_iff (x : SV) (K : SV → Prop) : fv x K ↔ K x := by
  unfold fv
  split <;> first | rfl | (split <;> rfl)

def fl (l : List SV) (K : List SV → Prop) : Prop :=
  match l with
  | [] => K []
  | x :: r => fv x fun x' => fl r fun r' => K (x' :: r')

theorem fl_iff : ∀ (l : List SV) (K : List SV → Prop), fl l K ↔ K l
  | [], K => Iff.rfl
  | x :: r, K => by unfold fl; rw [fv_iff, fl_iff r]

/-- The same, and a composite's parts, too. -/
def fa (x : SV) (K : SV → Prop) : Prop :=
  match x with
  | .agg l => fl l fun l => K (.agg l)
  | .tup l => fl l fun l => K (.tup l)
  | x => fv x K

theorem fa_iff (x : SV) (K : SV → Prop) : fa x K ↔ K x := by
  unfold fa
  split
  · exact fl_iff _ _
  · exact fl_iff _ _
  · exact fv_iff _ _

def I64 (x : Int) : Prop := -9223372036854775808 ≤ x ∧ x ≤ 9223372036854775807

theorem I64.wrap {x : Int} (h : I64 x) : IntKind.i64.wrap x = x := by
  obtain ⟨h1, h2⟩ := h
  rw [IntKind.wrap_i64]
  omega

/-- An integer's operation: what it asks, and what it comes to. -/
def intOp (op : BinOp) (k : IntKind) (a b : Int) (K : SV → Prop) (stop : Prop) : Prop :=
  match op with
  | .add => (match k with | .i64 => I64 (a + b) ∧ K (.val (.int .i64 (a + b))) | k => K (.val (.int k (k.wrap (a + b)))))
  | .sub => (match k with | .i64 => I64 (a - b) ∧ K (.val (.int .i64 (a - b))) | k => K (.val (.int k (k.wrap (a - b)))))
  | .mul => (match k with | .i64 => I64 (a * b) ∧ K (.val (.int .i64 (a * b))) | k => K (.val (.int k (k.wrap (a * b)))))
  | .quo => b ≠ 0 ∧ K (.val (.int k (k.wrap (a.tdiv b))))
  | .rem => b ≠ 0 ∧ K (.val (.int k (a.tmod b)))
  | .and => K (.val (.int k (bits .and k a b)))
  | .or => K (.val (.int k (bits .or k a b)))
  | .xor => K (.val (.int k (bits .xor k a b)))
  | .andNot => K (.val (.int k (bits .andNot k a b)))
  | .lss => K (.val (.bool (decide (a < b))))
  | .leq => K (.val (.bool (decide (a ≤ b))))
  | .gtr => K (.val (.bool (decide (a > b))))
  | .geq => K (.val (.bool (decide (a ≥ b))))
  | .eql => K (.val (.bool (a == b)))
  | .neq => K (.val (.bool (a != b)))
  | _ => stop

def shiftOp (op : BinOp) (k : IntKind) (a b : Int) (K : SV → Prop) (stop : Prop) : Prop :=
  match op with
  | .shl => 0 ≤ b ∧ K (.val (.int k (k.wrap (a * 2 ^ (min b.toNat k.bits)))))
  | .shr => 0 ≤ b ∧ K (.val (.int k (a.fdiv (2 ^ (min b.toNat k.bits)))))
  | _ => stop

def isShift : BinOp → Bool | .shl => true | .shr => true | _ => false
def isEq : BinOp → Bool | .eql => true | .neq => true | _ => false

def strOp (op : BinOp) (a b : ByteArray) (K : SV → Prop) (stop : Prop) : Prop :=
  match op with
  | .add => a.size + b.size ≤ 9223372036854775807 ∧ K (.val (.string (a ++ b)))
  | .eql => K (.val (.bool (a == b)))
  | .neq => K (.val (.bool (!(a == b))))
  | .lss => K (.val (.bool (Op.bytesLess a.toList b.toList)))
  | _ => stop

/-- Types' own knowledge, with which structs can be held against one another. -/
structure TyE (P : Program) extends Ty P where
  eqs : TypeId → Option (List EK)
  eqok : ∀ t ks, eqs t = some ks → EqOK P t ks

def opW {P : Program} (Γ : TyE P) (o : Oper) (s : SS) (K : Up → Prop) (stop : Prop) : Prop :=
  match o.op with
  | .move x => fv (ev s x) fun v => K ⟨v, [], []⟩
  | .assign x => fv (ev s x) fun v => K ⟨v, [], []⟩
  | .pick c a b => (match ev s c with
    | .val (.bool c) => (match c with
      | true => fv (ev s a) fun v => K ⟨v, [], []⟩
      | false => fv (ev s b) fun v => K ⟨v, [], []⟩)
    | _ => stop)
  | .alloc t => (match o.dst with
    | some d => (match s.h d with
      | .fresh => (match Γ.get t with
        | some i => (match onesB i.zero with
          | true => fl (i.zero.map .val) fun l => K ⟨.ptr d 0, [], [(d, .box l)]⟩
          | false => stop)
        | none => stop)
      | _ => stop)
    | none => stop)
  | .box _ x => (match o.dst with
    | some d => (match s.h d with
      | .fresh => (match (ev s x).boxed with
        | true => fl (cellsOf (ev s x)) fun l => K ⟨.ptr d 0, [], [(d, .box l)]⟩
        | false => stop)
      | _ => stop)
    | none => stop)
  | .load t x => (match Γ.get t with
    | some i => (match ev s x with
      | .ptr k off => (match s.h k with
        | .box l => (match loadSV i l off with
          | some y => fa y fun y => K ⟨y, [k], []⟩
          | none => stop)
        | _ => stop)
      | .ref _ z off => (match z.boxed with
        | true => (match loadSV i (cellsOf z) off with
          | some y => fa y fun y => K ⟨y, [], []⟩
          | none => stop)
        | false => stop)
      | .rpt k sz n off => (match s.h k with
        | .row sz' e l => sz' = sz ∧ ∃ h : n < l.length, (match (e l[n]).boxed with
          | true => (match loadSV i (cellsOf (e l[n])) off with
            | some y => fa y fun y => K ⟨y, [k], []⟩
            | none => False)
          | false => False)
        | .lit sz' svs => sz' = sz ∧ (match getI svs n with
          | some z => (match z.boxed with
            | true => (match loadSV i (cellsOf z) off with
              | some y => fa y fun y => K ⟨y, [k], []⟩
              | none => False)
            | false => False)
          | none => False)
        | _ => stop)
      | _ => stop)
    | none => stop)
  | .store t x y => (match Γ.get t with
    | some i => (match ev s x with
      | .ptr k off => (match s.h k with
        | .box l => (match (ev s y).boxed && Nat.beq (cellsOf (ev s y)).length i.size && Nat.ble (off + i.size) l.length with
          | true => fl (setAt l off (cellsOf (ev s y))) fun l => K ⟨.val undef, [], [(k, .box l)]⟩
          | false => stop)
        | _ => stop)
      | .rpt k sz n off => (match s.h k with
        | .row (α := α) sz' e l => sz' = sz ∧ ∃ (h : n < l.length) (z : α), cellsOf (e z) = setAt (cellsOf (e l[n])) off (cellsOf (ev s y)) ∧
            (((ev s y).boxed && Nat.beq (cellsOf (ev s y)).length i.size && Nat.ble (off + i.size) sz && (e l[n]).boxed && (e z).boxed && (e z).data) = true) ∧ K ⟨.val undef, [], [(k, .row sz' e (l.set n z))]⟩
        | _ => stop)
      | _ => stop)
    | none => stop)
  | .fieldAddr t x f => (match Γ.get t with
    | some i => (match i.k with
      | .struct fs => (match fs[f]? with
        | some (fo, fn) => (match fn with
          | 0 => stop
          | _ + 1 => (match ev s x with
            | .ptr k off => (match s.h k with
              | .box _ => K ⟨.ptr k (off + fo), [k], []⟩
              | _ => stop)
            | .ref sz z off => K ⟨.ref sz z (off + fo), [], []⟩
            | .rpt k sz n off => (match s.h k with
              | .row (α := α) sz' e l => l ≠ [] ∧ K ⟨.rpt k sz n (off + fo), [k], []⟩
              | .lit _ _ => K ⟨.rpt k sz n (off + fo), [k], []⟩
              | _ => stop)
            | _ => stop))
        | none => stop)
      | _ => stop)
    | none => stop)
  | .nilCheck x => (match ev s x with
    | .ptr k off => (match s.h k with
      | .box _ => K ⟨.ptr k off, [k], []⟩
      | _ => stop)
    | .ref sz z off => K ⟨.ref sz z off, [], []⟩
    | .clo fn first cap => (match fn with
      | .func f => K ⟨.clo (.func f) first cap, [], []⟩
      | _ => stop)
    | _ => stop)
  | .indexAddr t x y => (match Γ.get t with
    | some i => (match i.k with
      | .slice _ esz _ _ => (match ev s y with
        | .val (.int _ n) => (match ev s x with
          | .sl sz e l => esz = sz ∧ ∃ (_ : 0 ≤ n) (h : n.toNat < l.length), K ⟨.ref sz (e l[n.toNat]) 0, [], []⟩
          | .osl k => (match (s.h k).len with
            | some len => 0 ≤ n ∧ n.toNat < len ∧ K ⟨.rpt k esz n.toNat 0, [k], []⟩
            | none => stop)
          | _ => stop)
        | _ => stop)
      | _ => stop)
    | none => stop)
  | .binOp op t x y _ => (match ev s x, ev s y with
    | .val (.int k a), .val (.int k' b) => (match isShift op with
      | true => shiftOp op k a b (fun v => K ⟨v, [], []⟩) stop
      | false => if k = k' then intOp op k a b (fun v => K ⟨v, [], []⟩) stop else stop)
    | .val (.string a), .val (.string b) => strOp op a b (fun v => K ⟨v, [], []⟩) stop
    | .val (.bool p), .val (.bool q) => (match Γ.get t with
      | some i => (match i.k with
        | .bool => (match op with
          | .eql => K ⟨.val (.bool (p == q)), [], []⟩
          | .neq => K ⟨.val (.bool (p != q)), [], []⟩
          | _ => stop)
        | _ => stop)
      | none => stop)
    | .agg l, .agg m => (match Γ.eqs t with
      | some ks => (match eqS ks l m with
        | some r => (match op with
          | .eql => K ⟨.val (.bool r), [], []⟩
          | .neq => K ⟨.val (.bool (!r)), [], []⟩
          | _ => stop)
        | none => stop)
      | none => stop)
    | .ptr k _, .val (.pointer none) => (match s.h k with
      | .box _ => (match Γ.get t with
        | some i => (match i.k with
          | .ptr => (match op with
            | .eql => K ⟨.val (.bool false), [k], []⟩
            | .neq => K ⟨.val (.bool true), [k], []⟩
            | _ => stop)
          | _ => stop)
        | none => stop)
      | _ => stop)
    | _, _ => stop)
  | .unOp op _ x => (match op, ev s x with
    | .not, .val (.bool b) => K ⟨.val (.bool (!b)), [], []⟩
    | .neg, .val (.int k n) => K ⟨.val (.int k (k.wrap (0 - n))), [], []⟩
    | _, _ => stop)
  | .extract x i => (match ev s x with
    | .tup l => (match getI l i with
      | some y => fa y fun y => K ⟨y, [], []⟩
      | none => stop)
    | _ => stop)
  | .convert src dst x => (match Γ.get src, Γ.get dst with
    | some si, some di => (match di.k, ev s x with
      | .int k', .val (.int _ n) => K ⟨.val (.int k' (k'.wrap n)), [], []⟩
      | .string, .val (.string b) => (match si.k with
        | .string => K ⟨.val (.string b), [], []⟩
        | _ => stop)
      | _, _ => stop)
    | _, _ => stop)
  | .makeInterface t x => (match Γ.get t with
    | some i => (match i.k with
      | .iface => stop
      | .other => stop
      | _ => fv (ev s x) fun v => K ⟨.ifc t v, [], []⟩)
    | none => stop)
  | .build t ps => (match Γ.get t with
    | some i => (match i.k with
      | .struct fs => (match onesB i.zero with
        | true => (match fillS fs (i.zero.map .val) (ps.toList.map fun p => (p.1, ev s p.2)) with
          | some out => fl out fun out => K ⟨.agg out, [], []⟩
          | none => stop)
        | false => stop)
      | _ => stop)
    | none => stop)
  | .buildSlice t len ps => (match o.dst with
    | some d => (match s.h d with
      | .fresh => (match Γ.get t with
        | some i => (match i.k with
          | .slice _ sz _ _ => (match seqParts 0 ps.toList with
            | some xs => (match Nat.beq xs.length len && Nat.ble (len * sz) 16777216 && litOK sz (xs.map (ev s)) with
              | true => fl (xs.map (ev s)) fun svs => K ⟨.osl d, [], [(d, .lit sz svs)]⟩
              | false => stop)
            | none => stop)
          | _ => stop)
        | none => stop)
      | _ => stop)
    | none => stop)
  | .makeFunc fn first cap => fl (first.toList.map (ev s)) fun f => fl (cap.toList.map (ev s)) fun l => K ⟨.clo fn f l, [], []⟩
  | .call c => (match c.callee with
    | .builtin .len => (match c.args.toList, c.argTypes.toList with
      | [x], t :: _ => (match Γ.get t with
        | some i => (match i.k with
          | .slice _ _ _ _ => (match ev s x with
            | .sl _ _ l => K ⟨.val (.int .i64 l.length), [], []⟩
            | .osl k => (match (s.h k).len with
              | some n => K ⟨.val (.int .i64 n), [k], []⟩
              | none => stop)
            | .val (.slice _ n _) => K ⟨.val (.int .i64 n), [], []⟩
            | _ => stop)
          | .string => (match ev s x with
            | .val (.string b) => K ⟨.val (.int .i64 b.size), [], []⟩
            | _ => stop)
          | _ => stop)
        | none => stop)
      | _, _ => stop)
    | _ => stop)
  | _ => stop

end Go.Sy
