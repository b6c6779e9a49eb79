/-
  Own work: an interpreter over named blocks, its soundness, and what the functions of this seat compute (part 1 of 8).
  Conditions: those of the statement alone.
-/
import Derived.Calls
import Derived.Test.YtjmldnpdfnklcaaDoorProg
import Derived.Lib.LaidTab
import Derived.Lib.ItoaNum
import Derived.KernelRfl
import Derived.Orders
import Derived.Laws.World
import Derived.Laws.Entries
import Derived.Laws.Slices
import Derived.Laws.Append
import Derived.Laws.MakeOwn
import Derived.Laws.BytesString
set_option linter.all false
set_option linter.unusedSectionVars false
set_option linter.unusedVariables false
set_option linter.unusedSimpArgs false
namespace Go.Proofs.YtjmldnpdfnklcaaDoor

/-- Blocks that nobody names, and what is known of them. -/
structure Fix where
  blocks : List Nat
  ok : World → Prop
  frame : ∀ w w' : World, (∀ b ∈ blocks, w'.heap[b]? = w.heap[b]?) → ok w → ok w'
theorem g_pow : Tryd.prog.globalNamed "internal/strconv.uint64pow10" = some 5 := by kernel_rfl
def fx : Fix := ⟨[2, 5], fun w => (∃ m, w.cell? ⟨2, 0, none⟩ = some (.int .i64 m)) ∧ Lib.TabIs Tryd.prog w "internal/strconv.uint64pow10" .u64 Lib.pow10Tab, fun w w' h ⟨⟨m, h1⟩, h2⟩ => by
  have e1 := h 2 (by simp)
  have e2 := h 5 (by simp)
  refine ⟨⟨m, ?_⟩, ?_⟩
  · rw [← h1]
    simp only [World.cell?, e1]
  · unfold Lib.TabIs at h2 ⊢
    rw [← h2]
    simp only [World.var?, g_pow, Option.bind_some, e2]⟩

end Go.Proofs.YtjmldnpdfnklcaaDoor

namespace Go.Proofs.YtjmldnpdfnklcaaDoor

/-- Abstract values. 's': a value as it stands (numbers, texts, nil ..). 'ref': a pointer into the named block r. 'sl': a slice in a named block (its generation g, its place, cells an element, length, a capacity that it has at least; ex: just that capacity). 'ip': a pointer to memory that nobody writes any more; 'vs': a slice of such memory. 'mp': a map. -/
inductive AV where
  | s (v : Value)
  | ref (r g off : Nat)
  | sl (r g off esz len cap : Nat) (ex : Bool)
  | ip (cells : List AV)
  | vs (n esz : Nat) (cells : List AV)
  | mp (r : Nat)
  | fn (f : Fn) (first captured : List AV)
  | agg (cells : List AV)
  | tup (cells : List AV)
  deriving Inhabited
/-- What a named block holds: a row of cells (its generation, its elements' type), or a map with integer keys. -/
inductive AObj where
  | blk (g : Nat) (ty : TypeId) (cells : List AV)
  | map (k : IntKind) (es : List (Int × AV))
  deriving Inhabited
def AObj.gen : AObj → Nat
  | .blk g _ _ => g
  | .map _ _ => 0
structure AHeap where
  next : Nat
  base : Nat
  get : Nat → AObj
def AHeap.gen (H : AHeap) (r : Nat) : Nat := (H.get r).gen
def AHeap.put (H : AHeap) (r : Nat) (o : AObj) : AHeap := { H with get := fun x => if x = r then o else H.get x }
def AHeap.new (H : AHeap) (o : AObj) : AHeap := { next := H.next + 1, base := H.base, get := fun x => if x = H.next then o else H.get x }
def AHeap.guard (H : AHeap) : AHeap := { H with base := H.next }
def AHeap.empty : AHeap := { next := 0, base := 0, get := fun _ => .blk 0 0 [] }
abbrev Ren := Nat → Option (Nat × Nat)
/-- No named block lies in block b. -/
def Imm (ρ : Ren) (b : Nat) : Prop := ∀ r sh, ρ r ≠ some (b, sh)
mutual
/-- The value of the model that an abstract value stands for. -/
def RV (ρ : Ren) (G : Nat → Nat) (w : World) : AV → Value → Prop
  | .s v, cv => cv = v
  | .ref r g off, cv => ∃ a, cv = .pointer (some a) ∧ g ≤ G r ∧ (G r = g → ∃ b sh, ρ r = some (b, sh) ∧ a = ⟨b, sh + off, none⟩)
  | .sl r g off esz len cap ex, cv => ∃ b o c, cv = .slice (some ⟨b, o, none⟩) len c ∧ len ≤ cap ∧ cap ≤ c ∧ (ex = true → c = cap) ∧ g ≤ G r ∧
      (G r = g → ∃ sh e n, ρ r = some (b, sh) ∧ (0 < c → o = sh + off) ∧ w.shape? b = some (e, n) ∧ o + c * esz ≤ n)
  | .ip cells, cv => ∃ b o, cv = .pointer (some ⟨b, o, none⟩) ∧ b < w.heap.size ∧ Imm ρ b ∧ RVc ρ G w cells b o
  | .vs n esz cells, cv => ∃ b o c, cv = .slice (some ⟨b, o, none⟩) n c ∧ n ≤ c ∧ cells.length = n * esz ∧ b < w.heap.size ∧ Imm ρ b ∧ RVc ρ G w cells b o
  | .mp r, cv => ∃ b, cv = .map (some b) ∧ (G r = 0 → ρ r = some (b, 0))
  | .fn f first captured, cv => ∃ a c, cv = .func f a c ∧ RVs ρ G w first a.toList ∧ RVs ρ G w captured c.toList
  | .agg cells, cv => ∃ cs, cv = .agg cs ∧ RVs ρ G w cells cs.toList
  | .tup cells, cv => ∃ cs, cv = .tuple cs ∧ RVs ρ G w cells cs.toList
def RVs (ρ : Ren) (G : Nat → Nat) (w : World) : List AV → List Value → Prop
  | [], l => l = []
  | x :: xs, l => ∃ y ys, l = y :: ys ∧ RV ρ G w x y ∧ RVs ρ G w xs ys
def RVc (ρ : Ren) (G : Nat → Nat) (w : World) : List AV → Nat → Nat → Prop
  | [], _, _ => True
  | x :: xs, b, o => (∃ v, w.cell? ⟨b, o, none⟩ = some v ∧ RV ρ G w x v) ∧ RVc ρ G w xs b (o + 1)
end
def RVm (ρ : Ren) (G : Nat → Nat) (w : World) (k : IntKind) : List (Int × AV) → List MapEntry → Prop
  | [], l => l = []
  | (n, x) :: xs, l => ∃ e es, l = e :: es ∧ e.key = .int k n ∧ RV ρ G w x e.val ∧ RVm ρ G w k xs es
/-- Each entry of a map has a birth of its own. -/
def Born (es : List MapEntry) (clock : Nat) : Prop := (∀ x ∈ es, x.born < clock) ∧ (es.map (·.born)).Nodup
/-- Rows whose type's number is as great have grown. -/
def tagB : Nat := 1000000000
/-- A row that has not grown lies there just as it was made; one that has grown, and whose type is known, is of that type and begins at its block's beginning. -/
def Xct (ty e sh n l : Nat) : Prop := (ty < tagB → e = ty ∧ sh = 0 ∧ n = l) ∧ (tagB ≤ ty → ty < tagB + tagB → ty = e + tagB ∧ sh = 0)
theorem Xct.low {e n l : Nat} (h : e < tagB) (hn : n = l) : Xct e e 0 n l := ⟨fun _ => ⟨rfl, rfl, hn⟩, fun h1 => absurd h1 (Nat.not_le.2 h)⟩
theorem Xct.grown {e n l : Nat} : Xct (e + tagB) e 0 n l := ⟨fun h => absurd h (Nat.not_lt.2 (Nat.le_add_left _ _)), fun _ _ => ⟨rfl, rfl⟩⟩
theorem Xct.void {e sh n l : Nat} : Xct (tagB + tagB) e sh n l := ⟨fun h => absurd h (Nat.not_lt.2 (Nat.le_add_left _ _)), fun _ h => absurd h (Nat.lt_irrefl _)⟩
/-- The type of a row that 'append' makes longer. -/
def grT (e ty off : Nat) : Nat := if (ty = e ∨ ty = e + tagB) ∧ off = 0 then e + tagB else tagB + tagB
theorem grT_new {e ty off n l : Nat} : Xct (grT e ty off) e 0 n l := by
  unfold grT; split
  · exact Xct.grown
  · exact Xct.void
theorem grT_old {e e' ty sh off n l n' l' : Nat} (he : e < tagB) (h : Xct ty e' sh n l) : Xct (grT e ty off) e' (sh + off) n' l' := by
  unfold grT; split
  · rename_i hh
    obtain ⟨h1, rfl⟩ := hh
    rcases h1 with rfl | rfl
    · obtain ⟨rfl, rfl, _⟩ := h.1 he
      exact Xct.grown
    · obtain ⟨h2, rfl⟩ := h.2 (Nat.le_add_left _ _) (by omega)
      have : e' = e := by omega
      subst this
      exact Xct.grown
  · exact Xct.void
def RObj (ρ : Ren) (G : Nat → Nat) (w : World) (o : AObj) (b sh : Nat) : Prop :=
  match o with
  | .blk _ ty cells => ∃ cs e, w.heap[b]? = some (.cells cs e (0, 0)) ∧ sh + cells.length ≤ cs.size ∧ RVc ρ G w cells b sh ∧ Xct ty e sh cs.size cells.length
  | .map k es => ∃ ces clock, w.heap[b]? = some (.map ces clock) ∧ sh = 0 ∧ RVm ρ G w k es ces.toList ∧ Born ces.toList clock
/-- What start-up has laid lies there still. -/
def GlOk (ρ : Ren) (w : World) : Prop := (∀ b ∈ fx.blocks, b < w.heap.size ∧ Imm ρ b) ∧ fx.ok w
structure Rel (ρ : Ren) (H : AHeap) (w : World) : Prop where
  out : ∀ r, H.next ≤ r → ρ r = none ∧ H.gen r = 0
  obj : ∀ r b sh, ρ r = some (b, sh) → RObj ρ H.gen w (H.get r) b sh
  inj : ∀ r r' b sh sh', ρ r = some (b, sh) → ρ r' = some (b, sh') → r = r'
  gl : GlOk ρ w
/-- How a world, with its renaming and its abstract heap, may have gone on. -/
structure Ext (ρ : Ren) (H : AHeap) (w : World) (ρ' : Ren) (H' : AHeap) (w' : World) : Prop where
  next : H.next ≤ H'.next
  mono : ∀ r, H.gen r ≤ H'.gen r
  same : ∀ r x, ρ r = some x → H'.gen r = H.gen r → ρ' r = some x
  kept : ∀ r, r < H.next → ρ r = none → ρ' r = none
  range : ∀ r b sh, ρ' r = some (b, sh) → w.heap.size ≤ b ∨ ∃ sh', ρ r = some (b, sh')
  size : w.heap.size ≤ w'.heap.size
  frame : ∀ b, b < w.heap.size → Imm ρ b → w'.heap[b]? = w.heap[b]?
  shape : ∀ b, b < w.heap.size → w'.shape? b = w.shape? b
  os : w'.os = w.os
  tape : w'.tape = w.tape
  output : w'.output = w.output
theorem GlOk.of {ρ ρ' : Ren} {w w' : World} (h : GlOk ρ w) (hs : w.heap.size ≤ w'.heap.size) (hr : ∀ r b sh, ρ' r = some (b, sh) → w.heap.size ≤ b ∨ ∃ r' sh', ρ r' = some (b, sh')) (hf : ∀ b, b < w.heap.size → Imm ρ b → w'.heap[b]? = w.heap[b]?) : GlOk ρ' w' := by
  refine ⟨fun b hb => ?_, fx.frame w w' (fun b hb => hf b (h.1 b hb).1 (h.1 b hb).2) h.2⟩
  obtain ⟨h1, h2⟩ := h.1 b hb
  refine ⟨Nat.lt_of_lt_of_le h1 hs, fun r sh e => ?_⟩
  rcases hr r b sh e with h | ⟨r', sh', h⟩
  · omega
  · exact h2 r' sh' h
theorem GlOk.ext {ρ ρ' : Ren} {H H' : AHeap} {w w' : World} (h : GlOk ρ w) (E : Ext ρ H w ρ' H' w') : GlOk ρ' w' :=
  h.of E.size (fun r b sh e => (E.range r b sh e).imp id fun ⟨sh', h⟩ => ⟨r, sh', h⟩) E.frame

end Go.Proofs.YtjmldnpdfnklcaaDoor

namespace Go.Proofs.YtjmldnpdfnklcaaDoor

mutual
/-- A value without names, as the model's. -/
def AV.val? : AV → Option Value
  | .s v => some v
  | .agg l => (vals? l).map fun vs => .agg vs.toArray
  | .tup l => (vals? l).map fun vs => .tuple vs.toArray
  | .ref .. => none
  | .sl .. => none
  | .ip .. => none
  | .vs .. => none
  | .mp .. => none
  | .fn .. => none
def vals? : List AV → Option (List Value)
  | [] => some []
  | x :: xs => match x.val?, vals? xs with
    | some v, some vs => some (v :: vs)
    | _, _ => none
end
def AV.cells : AV → List AV
  | .agg l => l
  | .s v => v.cells.toList.map .s
  | x => [x]
def AV.isCell : AV → Bool
  | .agg _ => false
  | .tup _ => false
  | .s (.agg _) => false
  | .s (.tuple _) => false
  | _ => true
def undefA : AV := .tup []
def setAt (cells : List AV) (off : Nat) (xs : List AV) : List AV := cells.take off ++ (xs ++ cells.drop (off + xs.length))
def pureRun {α : Type} (P : Program) : Sem α → Option α
  | .pure a => some a
  | .program k => pureRun P (k P)
  | _ => none
def szT (P : Program) (t : TypeId) : Option Nat := (P.info? t).map (·.size)
def bytesT (P : Program) (t : TypeId) : Option Nat := (P.info? t).map (·.bytes)
def aggT (P : Program) (t : TypeId) : Option Bool :=
  match P.underlying t with
  | some (.struct _) => some true
  | some (.array _ _) => some true
  | some _ => some false
  | none => none
def elemT (P : Program) (t : TypeId) : Option TypeId :=
  match P.underlying t with
  | some (.slice e) => some e
  | _ => none
def zeroT (P : Program) (t : TypeId) : Option Value := if t < tagB then (P.info? t).bind (·.zero) else none
def zeroL (P : Program) (t : TypeId) : Option (List AV) := (zeroT P t).map fun v => v.cells.toList.map .s
def fieldT (P : Program) (t : TypeId) (i : Nat) : Option Field :=
  match P.underlying t with
  | some (.struct fs) => fs[i]?
  | _ => none
/-- The part of type t of a row of cells at a place. -/
def partL (P : Program) (t : TypeId) (cells : List AV) (off : Nat) : Option AV :=
  match aggT P t, szT P t with
  | some true, some n => if off + n ≤ cells.length then some (.agg ((cells.drop off).take n)) else none
  | some false, some _ => cells[off]?
  | _, _ => none
def fillA (place : Nat → Option (Nat × Nat)) (cells : List AV) : List (Nat × AV) → Option (List AV)
  | [] => some cells
  | (i, v) :: rest =>
    match place i with
    | none => none
    | some (off, size) =>
      if v.cells.length = size ∧ off + v.cells.length ≤ cells.length then fillA place (setAt cells off v.cells) rest else none
def placeT (P : Program) (fs : Array Field) (i : Nat) : Option (Nat × Nat) :=
  match fs[i]? with
  | some f => (szT P f.type).map fun n => (f.offset, n)
  | none => none
def buildA (P : Program) (t : TypeId) (parts : List (Nat × AV)) : Option AV :=
  match zeroL P t, P.underlying t with
  | some z, some (.struct fs) => if fs.all (fun f => (szT P f.type).isSome) then (fillA (placeT P fs) z parts).map .agg else none
  | some z, some (.array _ e) => match szT P e with
    | some n => (fillA (fun i => some (i * n, n)) z parts).map .agg
    | none => none
  | _, _ => none
/-- '==' of what has a name, or is memory, with nil. -/
def nilEq (P : Program) (t : TypeId) (x y : AV) : Option Bool :=
  match P.underlying t with
  | some (.slice _) => match x, y with
    | .sl .., .s (.slice none _ _) => some false
    | .vs .., .s (.slice none _ _) => some false
    | .s (.slice none _ _), .sl .. => some false
    | .s (.slice none _ _), .vs .. => some false
    | _, _ => none
  | some (.pointer _) => match x, y with
    | .ref .., .s (.pointer none) => some false
    | .ip .., .s (.pointer none) => some false
    | .s (.pointer none), .ref .. => some false
    | .s (.pointer none), .ip .. => some false
    | _, _ => none
  | some (.map _ _) => match x, y with
    | .mp .., .s (.map none) => some false
    | .s (.map none), .mp .. => some false
    | _, _ => none
  | some (.func _ _ _) => match x, y with
    | .fn .., .s .nilFunc => some false
    | .s .nilFunc, .fn .. => some false
    | _, _ => none
  | _ => none
def binA (P : Program) (op : BinOp) (t : TypeId) (x y : AV) : Option AV :=
  match x.val?, y.val? with
  | some a, some b => (pureRun P (do eqGuard op t (.tmp 0) (.tmp 0) a b; binOp op t a b)).map .s
  | _, _ => match op with
    | .eql => (nilEq P t x y).map fun b => .s (.bool b)
    | .neq => (nilEq P t x y).map fun b => .s (.bool !b)
    | _ => none
/-- A comparison with the literal nil of an interface. -/
def binN (P : Program) (op : BinOp) (t : TypeId) (x : AV) : Option AV :=
  match x.val? with
  | some a => (pureRun P (do eqGuard op t (.tmp 0) (.const .nilIface) a .nilIface; binOp op t a .nilIface)).map .s
  | none => none
def isNilC : Operand → Bool
  | .const .nilIface => true
  | _ => false
def binE (P : Program) (op : BinOp) (t : TypeId) (yo : Operand) (x y : AV) : Option AV :=
  match isNilC yo with
  | true => binN P op t x
  | false => binA P op t x y
def unA (P : Program) (op : UnOp) (x : AV) : Option AV :=
  match x.val? with
  | some a => (pureRun P (Op.unary op a)).map .s
  | none => none
def fieldAddrA (P : Program) (t : TypeId) (x : AV) (i : Nat) : Option AV :=
  match fieldT P t i with
  | some f => match szT P f.type with
    | some (_ + 1) => match x with
      | .ref r g off => some (.ref r g (off + f.offset))
      | .ip cells => some (.ip (cells.drop f.offset))
      | _ => none
    | _ => none
  | none => none
def fieldA (P : Program) (t : TypeId) (x : AV) (i : Nat) : Option AV :=
  match fieldT P t i, x with
  | some f, .agg cells => partL P f.type cells f.offset
  | some f, .s (.agg cs) => partL P f.type (cs.toList.map .s) f.offset
  | _, _ => none
def indexA (P : Program) (t : TypeId) (x i : AV) : Option AV :=
  match P.underlying t, x, i with
  | some .string, .s (.string s), .s (.int _ n) => match (if 0 ≤ n then s[n.toNat]? else none) with
    | some b => some (.s (.int .u8 b.toNat))
    | none => none
  | some (.array len e), .agg cells, .s (.int _ n) => match szT P e with
    | some m => if 0 ≤ n ∧ n < len then partL P e cells (n.toNat * m) else none
    | none => none
  | some (.array len e), .s (.agg cs), .s (.int _ n) => match szT P e with
    | some m => if 0 ≤ n ∧ n < len then partL P e (cs.toList.map .s) (n.toNat * m) else none
    | none => none
  | _, _, _ => none
def extractA (x : AV) (i : Nat) : Option AV :=
  match x with
  | .tup l => l[i]?
  | .s (.tuple vs) => (vs[i]?).map .s
  | _ => none
def boundA : Option AV → Nat → Option Nat
  | none, d => some d
  | some (.s (.int _ n)), _ => if 0 ≤ n then some n.toNat else none
  | _, _ => none
def isNone {α : Type} : Option α → Bool
  | none => true
  | some _ => false
/-- x[lo:hi:mx] of a slice or a text. -/
def sliceA (P : Program) (t : TypeId) (x : AV) (lo hi mx : Option AV) : Option AV :=
  match P.underlying t with
  | some (.slice e) => match x, szT P e with
    | .s (.slice none 0 0), some _ => match boundA lo 0, boundA hi 0, boundA mx 0 with
      | some 0, some 0, some 0 => if hi = none → mx = none then some (.s (.slice none 0 0)) else none
      | _, _, _ => none
    | .sl r g off esz len cap ex, some m => match boundA lo 0, boundA hi len, boundA mx cap with
      | some l, some h, some k =>
        if esz = m ∧ l ≤ h ∧ h ≤ k ∧ k ≤ cap ∧ (hi = none → mx = none) then some (.sl r g (off + l * esz) esz (h - l) (k - l) (ex || !isNone mx)) else none
      | _, _, _ => none
    | .vs n esz cells, some m => match boundA lo 0, boundA hi n, mx with
      | some l, some h, none => if esz = m ∧ l ≤ h ∧ h ≤ n then some (.vs (h - l) esz ((cells.drop (l * esz)).take ((h - l) * esz))) else none
      | _, _, _ => none
    | _, _ => none
  | some .string => match x, boundA lo 0, mx with
    | .s (.string s), some l, none => match boundA hi s.size with
      | some h => if l ≤ h ∧ h ≤ s.size then some (.s (.string (s.extract l h))) else none
      | none => none
    | _, _, _ => none
  | _ => none
abbrev AM (α : Type) := AHeap → Option (α × AHeap)
def liftO {α : Type} (x : Option α) : AM α := fun H => x.map fun v => (v, H)
/-- The block that a value names. -/
def watchV : AV → Option Nat
  | .ref r _ _ => some r
  | .sl r _ _ _ _ _ _ => some r
  | .mp r => some r
  | _ => none
/-- What an operation that looks at a value's block answers. -/
def lookB (f : Option AObj → Option AV) (x : AV) : AM AV := fun H => (f ((watchV x).map H.get)).map fun v => (v, H)
def loadO (P : Program) (t : TypeId) (x : AV) (ob : Option AObj) : Option AV :=
  match x with
  | .ref _ g off => match ob with
    | some (.blk g' _ cells) => if g' = g then partL P t cells off else none
    | _ => none
  | .ip cells => partL P t cells 0
  | _ => none
def loadA (P : Program) (t : TypeId) (x : AV) : AM AV := lookB (loadO P t x) x
def storeA (P : Program) (t : TypeId) (x v : AV) : AM AV := fun H =>
  match x with
  | .ref r g off => match H.get r with
    | .blk g' ty cells =>
      if g' = g ∧ H.base ≤ r ∧ szT P t = some v.cells.length ∧ v.cells.all AV.isCell = true ∧ off + v.cells.length ≤ cells.length then
        some (undefA, H.put r (.blk g ty (setAt cells off v.cells)))
      else none
    | .map .. => none
  | _ => none
def allocA (P : Program) (t : TypeId) : AM AV := fun H =>
  match zeroL P t with
  | some z => if z.all AV.isCell = true then some (.ref H.next 0 0, H.new (.blk 0 t z)) else none
  | none => none
def boxA (t : TypeId) (v : AV) : AM AV := fun H =>
  if v.cells.all AV.isCell = true ∧ t < tagB then some (.ref H.next 0 0, H.new (.blk 0 t v.cells)) else none
def zerosL (z : List AV) : Nat → List AV
  | 0 => []
  | n + 1 => z ++ zerosL z n
def buildSliceA (P : Program) (t : TypeId) (len : Nat) (parts : List (Nat × AV)) : AM AV := fun H =>
  match elemT P t with
  | some e => match szT P e, zeroL P e with
    | some m, some z =>
      if z.length = m ∧ len * m ≤ 16777216 then
        match fillA (fun i => some (i * m, m)) (zerosL z len) parts with
        | some cells => if cells.all AV.isCell = true then some (.sl H.next 0 0 m len len true, H.new (.blk 0 e cells)) else none
        | none => none
      else none
    | _, _ => none
  | none => none
def makeSliceA (P : Program) (t : TypeId) (len cap : AV) : AM AV := fun H =>
  match elemT P t, len, cap with
  | some e, .s (.int _ l), .s (.int _ c) => match szT P e, bytesT P e, zeroL P e with
    | some m, some by_, some z =>
      if z.length = m ∧ z.all AV.isCell = true ∧ 0 ≤ l ∧ l ≤ c ∧ c ≤ 140737488355328 ∧ by_ * c ≤ 140737488355328 then
        some (.sl H.next 0 0 m l.toNat c.toNat true, H.new (.blk 0 e (zerosL z c.toNat)))
      else none
    | _, _, _ => none
  | _, _, _ => none
def genO : Option AObj → Nat
  | some o => o.gen
  | none => 0
def indexAddrO (P : Program) (t : TypeId) (x i : AV) (ob : Option AObj) : Option AV :=
  match P.underlying t with
  | some (.slice e) => match x with
    | .sl r g off esz len _ _ => match i with
      | .s (.int _ n) => if szT P e = some esz ∧ genO ob = g ∧ 0 ≤ n ∧ n < len then some (.ref r g (off + n.toNat * esz)) else none
      | _ => none
    | .vs len esz cells => match i with
      | .s (.int _ n) => if szT P e = some esz ∧ 0 ≤ n ∧ n < len then some (.ip (cells.drop (n.toNat * esz))) else none
      | _ => none
    | _ => none
  | some (.array len e) => match szT P e with
    | some m => match x with
      | .ref r g off => match i with
        | .s (.int _ n) => if 0 ≤ n ∧ n < len then some (.ref r g (off + n.toNat * m)) else none
        | _ => none
      | .ip cells => match i with
        | .s (.int _ n) => if 0 ≤ n ∧ n < len then some (.ip (cells.drop (n.toNat * m))) else none
        | _ => none
      | _ => none
    | none => none
  | _ => none
def indexAddrA (P : Program) (t : TypeId) (x i : AV) : AM AV := lookB (indexAddrO P t x i) x
def mapT (P : Program) (t : TypeId) : Option (IntKind × TypeId) :=
  match P.underlying t with
  | some (.map k e) => match P.underlying k with
    | some (.int ik) => some (ik, e)
    | _ => none
  | _ => none
def makeMapA (P : Program) (t : TypeId) : AM AV := fun H =>
  match mapT P t with
  | some (k, _) => some (.mp H.next, H.new (.map k []))
  | none => none
def findE : List (Int × AV) → Int → Option AV
  | [], _ => none
  | (k, v) :: es, n => if k = n then some v else findE es n
def putE : List (Int × AV) → Int → AV → List (Int × AV)
  | [], n, x => [(n, x)]
  | (k, v) :: es, n, x => if k = n then (n, x) :: es else (k, v) :: putE es n x
def dropE : List (Int × AV) → Int → List (Int × AV)
  | [], _ => []
  | (k, v) :: es, n => if k = n then es else (k, v) :: dropE es n
def lookupO (P : Program) (t : TypeId) (x i : AV) (ok : Bool) (ob : Option AObj) : Option AV :=
  match mapT P t with
  | some (k, e) => match zeroT P e with
    | some z => match x with
      | .mp _ => match i with
        | .s (.int k' n) => match ob with
          | some (.map k'' es) =>
            if k' = k ∧ k'' = k then
              match findE es n with
              | some v => some (if ok then .tup [v, .s (.bool true)] else v)
              | none => some (if ok then .tup [.s z, .s (.bool false)] else .s z)
            else none
          | _ => none
        | _ => none
      | _ => none
    | none => none
  | none => none
def lookupA (P : Program) (t : TypeId) (x i : AV) (ok : Bool) : AM AV := lookB (lookupO P t x i ok) x
def mapUpdateA (P : Program) (t : TypeId) (x i v : AV) : AM AV := fun H =>
  match mapT P t, x, i with
  | some (k, _), .mp r, .s (.int k' n) => match H.get r with
    | .map k'' es => if k' = k ∧ k'' = k ∧ H.base ≤ r then some (undefA, H.put r (.map k (putE es n v))) else none
    | _ => none
  | _, _, _ => none
/-- The cells of a slice, or of a text. -/
def sliceCells (H : AHeap) : AV → Option (List AV)
  | .sl r g off esz len _ _ => match H.get r with
    | .blk g' _ cells => if g' = g ∧ off + len * esz ≤ cells.length then some ((cells.drop off).take (len * esz)) else none
    | .map .. => none
  | .vs _ _ cells => some cells
  | .s (.slice none _ _) => some []
  | .s (.string s) => some (s.data.toList.map fun b => .s (.int .u8 b.toNat))
  | _ => none
def sliceLen : AV → Option Nat
  | .sl _ _ _ _ len _ _ => some len
  | .vs n _ _ => some n
  | .s (.slice none n _) => some n
  | .s (.string s) => some s.size
  | _ => none
def most : Nat := 140737488355328
/-- append, of cells. -/
def appendCells (e : TypeId) (m by_ : Nat) (x : AV) (n : Nat) (new : List AV) : AM AV := fun H =>
  if new.length = n * m ∧ new.all AV.isCell = true then
    match x with
    | .s (.slice none 0 0) =>
      if n = 0 then some (x, H)
      else if n ≤ most ∧ n * by_ ≤ most then some (.sl H.next 0 0 m n n false, H.new (.blk 0 (e + tagB) new))
      else none
    | .sl r g off esz len cap ex => match H.get r with
      | .blk g' ty cells =>
        if esz = m ∧ g' = g ∧ off + len * m ≤ cells.length then
          if n = 0 then some (x, H)
          else if len + n ≤ cap then
            (if H.base ≤ r ∧ off + (len + n) * m ≤ cells.length then some (.sl r g off m (len + n) cap ex, H.put r (.blk g ty (setAt cells (off + len * m) new))) else none)
          else if len + n ≤ most ∧ (len + n) * by_ ≤ most then
            if ex then some (.sl H.next 0 0 m (len + n) (len + n) false, H.new (.blk 0 (e + tagB) ((cells.drop off).take (len * m) ++ new)))
            else if H.base ≤ r then some (.sl r (g + 1) 0 m (len + n) (len + n) false, H.put r (.blk (g + 1) (grT e ty off) ((cells.drop off).take (len * m) ++ new)))
            else none
          else none
        else none
      | .map .. => none
    | _ => none
  else none
def appendA (P : Program) (t u : TypeId) (x y : AV) : AM AV := fun H =>
  match elemT P t, P.underlying u with
  | some e, some d => match szT P e, bytesT P e, zeroL P e with
    | some m, some by_, some z =>
      if z.length = m then
        match d with
        | .int _ => match y with
          | .s (.int _ n) => if 0 ≤ n ∧ n ≤ most ∧ n * by_ ≤ most then appendCells e m by_ x n.toNat (zerosL z n.toNat) H else none
          | _ => none
        | _ => match sliceLen y, sliceCells H y with
          | some n, some new => appendCells e m by_ x n new H
          | _, _ => none
      else none
    | _, _, _ => none
  | _, _ => none
def copyA (P : Program) (t : TypeId) (x y : AV) : AM AV := fun H =>
  match elemT P t with
  | some e => match szT P e, sliceLen x, sliceLen y, sliceCells H y with
    | some m, some d, some n, some new =>
      let k := min n d
      if new.length = n * m ∧ new.all AV.isCell = true then
        if k = 0 then (match x with | .s (.string _) => none | _ => some (.s (.int .i64 0), H)) else
        match x with
        | .sl r g off esz len _ _ => match H.get r with
          | .blk g' ty cells =>
            if esz = m ∧ g' = g ∧ H.base ≤ r ∧ off + len * m ≤ cells.length then
              some (.s (.int .i64 k), H.put r (.blk g ty (setAt cells off (new.take (k * m)))))
            else none
          | .map .. => none
        | _ => none
      else none
    | _, _, _, _ => none
  | none => none
def clearA (P : Program) (t : TypeId) (x : AV) : AM AV := fun H =>
  match elemT P t with
  | some e => match szT P e, zeroL P e, x with
    | some m, some z, .sl r g off esz len _ _ =>
      if len = 0 then some (.tup [], H) else
      match H.get r with
      | .blk g' ty cells =>
        if esz = m ∧ g' = g ∧ H.base ≤ r ∧ z.length = m ∧ z.all AV.isCell = true ∧ off + len * m ≤ cells.length then
          some (.tup [], H.put r (.blk g ty (setAt cells off (zerosL z len))))
        else none
      | .map .. => none
    | some _, some _, .s (.slice none _ _) => some (.tup [], H)
    | _, _, _ => none
  | none => none
def deleteA (P : Program) (t : TypeId) (x i : AV) : AM AV := fun H =>
  match mapT P t, x, i with
  | some (k, _), .mp r, .s (.int k' n) => match H.get r with
    | .map k'' es => if k' = k ∧ k'' = k ∧ H.base ≤ r then some (.tup [], H.put r (.map k (dropE es n))) else none
    | _ => none
  | _, _, _ => none
def lenO (P : Program) (t : TypeId) (x : AV) (ob : Option AObj) : Option AV :=
  match P.underlying t with
  | some (.slice _) => match x with
    | .sl _ _ _ _ len _ _ => some (.s (.int .i64 len))
    | .vs n _ _ => some (.s (.int .i64 n))
    | .s (.slice _ n _) => some (.s (.int .i64 n))
    | _ => none
  | some .string => match x with
    | .s (.string s) => some (.s (.int .i64 s.size))
    | _ => none
  | some (.map _ _) => match x with
    | .mp _ => match ob with
      | some (.map _ es) => some (.s (.int .i64 es.length))
      | _ => none
    | .s (.map none) => some (.s (.int .i64 0))
    | _ => none
  | _ => none
def lenA (P : Program) (t : TypeId) (x : AV) : AM AV := lookB (lenO P t x) x
def capA (P : Program) (t : TypeId) (x : AV) : Option AV :=
  match P.underlying t with
  | some (.slice _) => match x with
    | .sl _ _ _ _ _ cap true => some (.s (.int .i64 cap))
    | .s (.slice none _ c) => some (.s (.int .i64 c))
    | _ => none
  | _ => none
def byteList : List AV → Option (List Int)
  | [] => some []
  | x :: xs => match x with
    | .s (.int .u8 n) => match byteList xs with
      | some l => some (n :: l)
      | none => none
    | _ => none
def toStr (ns : List Int) : ByteArray := ns.foldl (fun s n => s.push (UInt8.ofNat n.toNat)) ByteArray.empty
/-- The text of bytes. -/
def strO (x : AV) (ob : Option AObj) : Option ByteArray :=
  match x with
  | .sl _ g off esz len _ _ => if esz = 1 then match ob with
      | some (.blk g' _ cells) => if g' = g ∧ off + len * esz ≤ cells.length then (byteList ((cells.drop off).take (len * esz))).map toStr else none
      | _ => none
    else none
  | .vs _ esz cells => if esz = 1 then (byteList cells).map toStr else none
  | .s (.slice none _ _) => some ByteArray.empty
  | _ => none
def bytesT? (P : Program) (src dst : TypeId) : Bool :=
  match P.underlying src, P.underlying dst with
  | some (.slice e), some .string => match P.underlying e with
    | some (.int .u8) => true
    | _ => false
  | _, _ => false
def convertO (P : Program) (src dst : TypeId) (x : AV) (ob : Option AObj) : Option AV :=
  if bytesT? P src dst = true then (strO x ob).map fun s => .s (.string s)
  else match x.val? with
    | some v => (pureRun P (convert src dst v)).map .s
    | none => none
def convertA (P : Program) (src dst : TypeId) (x : AV) : AM AV := lookB (convertO P src dst x) x
/-- A function's answer without names from n on: what it made is memory that nobody writes any more. -/
def freezeA (H : AHeap) (n : Nat) : Nat → AV → Option AV
  | 0, _ => none
  | d + 1, x => match x with
    | .s v => some (.s v)
    | .ref r g off => if r < n then some (.ref r g off) else none
    | .mp r => if r < n then some (.mp r) else none
    | .sl r g off esz len cap ex =>
      if r < n then some (.sl r g off esz len cap ex)
      else match sliceCells H (.sl r g off esz len cap ex) with
        | some cells => (cells.mapM (freezeA H n d)).map fun l => .vs len esz l
        | none => none
    | .ip cells => (cells.mapM (freezeA H n d)).map .ip
    | .vs k esz cells => (cells.mapM (freezeA H n d)).map (.vs k esz)
    | .fn f a c => match a.mapM (freezeA H n d), c.mapM (freezeA H n d) with
      | some a, some c => some (.fn f a c)
      | _, _ => none
    | .agg cells => (cells.mapM (freezeA H n d)).map .agg
    | .tup cells => (cells.mapM (freezeA H n d)).map .tup
abbrev Callee := FuncId → List AV → AM AV
abbrev Tmps := List AV
def evalA (t : Tmps) : Operand → AV
  | .tmp i => t.getD i undefA
  | .const v => .s v
  | .global g => .s (.pointer (some ⟨g, 0, none⟩))
  | .func f => .fn (.func f) [] []
def putA (t : Tmps) (dst : Option Tmp) (v : AV) : Tmps :=
  match dst with
  | some d => t.set d v
  | none => t
def enterable (P : Program) (f : FuncId) : Bool :=
  match P.funcs[f]? with
  | some fn => !(fn.name == "runtime.NumGoroutine") && fn.body.isSome
  | none => false
def callA (P : Program) (C : Callee) (f : AV) (args : List AV) : AM AV :=
  match f with
  | .fn (.func f) first captured => if enterable P f = true then C f (first ++ args ++ captured) else fun _ => none
  | .s (.func (.func f) first captured) => if enterable P f = true then C f (first.toList.map .s ++ args ++ captured.toList.map .s) else fun _ => none
  | _ => fun _ => none
def pickA (c a b : AV) : Option AV :=
  match c with
  | .s (.bool true) => some a
  | .s (.bool false) => some b
  | _ => none
def nilCheckA (x : AV) : Option AV :=
  match x with
  | .ref .. => some x
  | .ip .. => some x
  | .fn (.func _) _ _ => some x
  | .s (.pointer (some _)) => some x
  | _ => none
def minMaxA (P : Program) (isMax : Bool) (argTypes : Array TypeId) (type : TypeId) (args : List AV) : Option AV :=
  match vals? args with
  | some vs => (pureRun P (if isMax then Builtin.max_ argTypes type vs.toArray else Builtin.min_ argTypes type vs.toArray)).map .s
  | none => none
def builtinA (P : Program) (b : Builtin) (argTypes : Array TypeId) (type : TypeId) (args : List AV) : AM AV := fun H =>
  match b, argTypes.toList, args with
  | .append, [t, u], [x, y] => appendA P t u x y H
  | .len, [t], [x] => lenA P t x H
  | .cap, [t], [x] => liftO (capA P t x) H
  | .copy, t :: _, [x, y] => copyA P t x y H
  | .clear, [t], [x] => clearA P t x H
  | .delete, t :: _, [x, y] => deleteA P t x y H
  | .max, _, args => liftO (minMaxA P true argTypes type args) H
  | .min, _, args => liftO (minMaxA P false argTypes type args) H
  | _, _, _ => none
def callOpA (P : Program) (C : Callee) (t : Tmps) (c : Call) (type : TypeId) : AM AV := fun H =>
  match c.callee with
  | .value f => callA P C (evalA t f) (c.args.toList.map (evalA t)) H
  | .builtin b => builtinA P b c.argTypes type (c.args.toList.map (evalA t)) H
  | .invoke _ _ => none
def opA (P : Program) (C : Callee) (t : Tmps) (o : Oper) : AM AV :=
  match o.op with
  | .move x => liftO (some (evalA t x))
  | .assign x => liftO (some (evalA t x))
  | .pick c a b => liftO (pickA (evalA t c) (evalA t a) (evalA t b))
  | .alloc e => allocA P e
  | .box e x => boxA e (evalA t x)
  | .build ty ps => liftO (buildA P ty (ps.toList.map fun p => (p.1, evalA t p.2)))
  | .buildSlice ty n ps => buildSliceA P ty n (ps.toList.map fun p => (p.1, evalA t p.2))
  | .load ty x => loadA P ty (evalA t x)
  | .store ty x v => storeA P ty (evalA t x) (evalA t v)
  | .nilCheck x => liftO (nilCheckA (evalA t x))
  | .binOp op ty x y _ => liftO (binE P op ty y (evalA t x) (evalA t y))
  | .unOp op _ x => liftO (unA P op (evalA t x))
  | .convert src dst x => convertA P src dst (evalA t x)
  | .makeFunc f a c => liftO (some (.fn f (a.toList.map (evalA t)) (c.toList.map (evalA t))))
  | .makeMap ty none => makeMapA P ty
  | .makeSlice ty l c => makeSliceA P ty (evalA t l) (evalA t c)
  | .slice ty x lo hi mx => liftO (sliceA P ty (evalA t x) (lo.map (evalA t)) (hi.map (evalA t)) (mx.map (evalA t)))
  | .fieldAddr ty x i => liftO (fieldAddrA P ty (evalA t x) i)
  | .field ty x i => liftO (fieldA P ty (evalA t x) i)
  | .indexAddr ty x i => indexAddrA P ty (evalA t x) (evalA t i)
  | .index ty x i => liftO (indexA P ty (evalA t x) (evalA t i))
  | .lookup ty x i ok => lookupA P ty (evalA t x) (evalA t i) ok
  | .mapUpdate ty m k v => mapUpdateA P ty (evalA t m) (evalA t k) (evalA t v)
  | .extract x i => liftO (extractA (evalA t x) i)
  | .call c => callOpA P C t c o.type
  | _ => fun _ => none
/-- Is an operation wanted? (none: its guard is no truth value.) -/
def wantedA (ops : List Oper) (t : Tmps) (o : Oper) : Option Bool :=
  match o.guard with
  | none => some true
  | some (j, want) => match ops[j]? with
    | some p => match p.dst with
      | some d => match t[d]? with
        | some (.s (.bool b)) => some (b == want)
        | some (.tup []) => some false
        | _ => none
      | none => none
    | none => none
def opsA (P : Program) (C : Callee) (ops : List Oper) : List Oper → Tmps → AM Tmps
  | [], t, H => some (t, H)
  | o :: rest, t, H => match wantedA ops t o with
    | some true => match opA P C t o H with
      | some (v, H') => opsA P C ops rest (putA t o.dst v) H'
      | none => none
    | some false => opsA P C ops rest (putA t o.dst undefA) H
    | none => none

end Go.Proofs.YtjmldnpdfnklcaaDoor

namespace Go.Proofs.YtjmldnpdfnklcaaDoor

def isConstO : Operand → Bool
  | .const _ => true
  | _ => false
/-- New memory that hangs on nothing. -/
def clsConst : Op → Bool
  | .alloc _ => true
  | .buildSlice _ _ ps => ps.all fun p => isConstO p.2
  | _ => false
/-- It changes nothing. -/
def clsFloat : Op → Bool
  | .move _ => true
  | .assign _ => true
  | .pick _ _ _ => true
  | .build _ _ => true
  | .nilCheck _ => true
  | .binOp _ _ _ _ _ => true
  | .unOp _ _ _ => true
  | .makeFunc _ _ _ => true
  | .slice _ _ _ _ _ => true
  | .fieldAddr _ _ _ => true
  | .field _ _ _ => true
  | .index _ _ _ => true
  | .extract _ _ => true
  | .load _ _ => true
  | .lookup _ _ _ _ => true
  | .indexAddr _ _ _ => true
  | .convert _ _ _ => true
  | .call c => match c.callee with
    | .builtin .len => true
    | .builtin .cap => true
    | .builtin .max => true
    | .builtin .min => true
    | _ => false
  | _ => false
/-- It makes new memory, and changes none; or it is a call of a function. -/
def clsQuiet : Op → Bool
  | .box _ _ => true
  | .buildSlice _ _ _ => true
  | .makeMap _ _ => true
  | .makeSlice _ _ _ => true
  | .call c => match c.callee with
    | .value _ => true
    | _ => false
  | _ => false
def isCall : Op → Bool
  | .call c => match c.callee with
    | .value _ => true
    | _ => false
  | _ => false
/-- Does an operation look into the heap at all? -/
def looks : Op → Bool
  | .load _ _ => true
  | .lookup _ _ _ _ => true
  | .indexAddr _ _ _ => true
  | .convert _ _ _ => true
  | .call c => match c.callee with
    | .builtin .len => true
    | _ => false
  | _ => false
/-- The block that an operation looks at. -/
def watchA (t : Tmps) : Op → Option Nat
  | .load _ x => watchV (evalA t x)
  | .lookup _ x _ _ => watchV (evalA t x)
  | .indexAddr _ x _ => watchV (evalA t x)
  | .convert _ _ x => watchV (evalA t x)
  | .call c => match c.args.toList with
    | [x] => watchV (evalA t x)
    | _ => none
  | _ => none
def isBef (ops : List Oper) (i j : Nat) : Bool := ((Region.before ops.toArray).getD j 0).testBit i
def getOp (ops : List Oper) (i : Nat) : Op := (ops[i]?.map (·.op)).getD (.alloc 0)
def getDst (ops : List Oper) (i : Nat) : Option Tmp := ops[i]?.bind (·.dst)
def cst (ops : List Oper) (i : Nat) : Bool := clsConst (getOp ops i)
def flo (ops : List Oper) (i : Nat) : Bool := clsFloat (getOp ops i)
def chn (ops : List Oper) (i : Nat) : Bool := !cst ops i && !flo ops i
/-- i is carried out ahead of j. -/
def ahead (ops : List Oper) (i j : Nat) : Bool := if cst ops i == cst ops j then decide (i < j) else cst ops i
def allLt (n : Nat) (f : Nat → Bool) : Bool := (List.range n).all f
/-- The chain's operations at which a looking operation might stand on either side. -/
def unord (ops : List Oper) (j e : Nat) : Bool := chn ops e && flo ops j && looks (getOp ops j) && !isBef ops j e && !isBef ops e j
def loose (ops : List Oper) (e : Nat) : Bool := (List.range ops.length).any fun j => unord ops j e || (cst ops j && chn ops e && !isBef ops j e)
def effPairs (ops : List Oper) : List (Nat × Nat) :=
  (List.range ops.length).flatMap fun j => ((List.range ops.length).filter fun e => unord ops j e && !clsQuiet (getOp ops e)).map fun e => (j, e)
def drawOk (ops : List Oper) : Bool :=
  let n := ops.length
  (allLt n fun j => (ops[j]?.map fun o => o.after.all fun e => !Region.binds .any e || (decide (e.on < n) && ahead ops e.on j)).getD false) &&
  (allLt n fun i => allLt n fun j => !(decide (i < j)) || (getDst ops i).isNone || !(getDst ops i == getDst ops j)) &&
  (allLt n fun i => allLt n fun j => i == j || (match getDst ops i, ops[j]? with
    | some d, some o => !(o.looksAt ops.toArray).contains d || (isBef ops i j && ahead ops i j) || (isBef ops j i && ahead ops j i)
    | _, _ => true)) &&
  (allLt n fun i => allLt n fun j => !(chn ops i && chn ops j && decide (i < j)) || isBef ops i j) &&
  (allLt n fun j => !cst ops j || ((ops[j]?.map fun o => o.guard.isNone && o.dst.isSome).getD false)) &&
  (allLt n fun j => allLt n fun e => !(cst ops j && chn ops e && !isBef ops j e) || (clsQuiet (getOp ops e) && !isBef ops e j))
def opG (P : Program) (C : Callee) (t : Tmps) (o : Oper) : AM AV := fun H =>
  match opA P C t o H.guard with
  | some (v, H') => some (v, { H' with base := H.base })
  | none => none
/-- One operation: if it is wanted, guarded where it is loose. -/
def stepA (P : Program) (C : Callee) (ops : List Oper) (lo : Bool) (o : Oper) (t : Tmps) : AM AV := fun H =>
  match wantedA ops t o with
  | some true => if lo then opG P C t o H else opA P C t o H
  | some false => some (undefA, H)
  | none => none
def constRun (P : Program) (C : Callee) (ops : List Oper) : List Nat → Tmps → AHeap → Option (Tmps × AHeap)
  | [], t, H => some (t, H)
  | i :: is, t, H => match ops[i]? with
    | some o => match opA P C t o H with
      | some (v, H') => constRun P C ops is (putA t o.dst v) H'
      | none => none
    | none => none
def drawRun (P : Program) (C : Callee) (ops : List Oper) : List Nat → Tmps → AHeap → Option (Tmps × AHeap)
  | [], t, H => some (t, H)
  | i :: is, t, H => match ops[i]? with
    | some o => match stepA P C ops (loose ops i && isCall o.op) o t H with
      | some (v, H') => drawRun P C ops is (putA t o.dst v) H'
      | none => none
    | none => none
def constIdx (ops : List Oper) : List Nat := (List.range ops.length).filter (cst ops)
def restIdx (ops : List Oper) : List Nat := (List.range ops.length).filter fun i => !cst ops i
/-- The state ahead of an operation. -/
def stAt (P : Program) (C : Callee) (ops : List Oper) (p : Nat) (t : Tmps) (H : AHeap) : Option (Tmps × AHeap) :=
  drawRun P C ops ((List.range p).filter fun i => !cst ops i) t H
def agree (P : Program) (C : Callee) (ops : List Oper) (t : Tmps) (H : AHeap) (p : Nat × Nat) : Prop :=
  ∀ tj Hj te He te' He', stAt P C ops p.1 t H = some (tj, Hj) → stAt P C ops p.2 t H = some (te, He) → stAt P C ops (p.2 + 1) t H = some (te', He') →
    ∀ r, watchA tj (getOp ops p.1) = some r → He'.get r = He.get r
open Classical in
noncomputable def drawA (P : Program) (C : Callee) (ops : List Oper) (t : Tmps) (H : AHeap) : Option (Tmps × AHeap) :=
  if drawOk ops = true then
    match constRun P C ops (constIdx ops) t H with
    | some (t0, H0) => match effPairs ops with
      | [] => drawRun P C ops (restIdx ops) t0 H0
      | ps => if ∀ p ∈ ps, agree P C ops t0 H0 p then drawRun P C ops (restIdx ops) t0 H0 else none
    | none => none
  else none

end Go.Proofs.YtjmldnpdfnklcaaDoor

namespace Go.Proofs.YtjmldnpdfnklcaaDoor

mutual
/-- All names in a value are below n. -/
def NV (n : Nat) : AV → Prop
  | .s _ => True
  | .ref r _ _ => r < n
  | .sl r _ _ _ _ _ _ => r < n
  | .ip cells => NVs n cells
  | .vs _ _ cells => NVs n cells
  | .mp r => r < n
  | .fn _ a c => NVs n a ∧ NVs n c
  | .agg cells => NVs n cells
  | .tup cells => NVs n cells
def NVs (n : Nat) : List AV → Prop
  | [] => True
  | x :: xs => NV n x ∧ NVs n xs
end
mutual
theorem RV.nv {ρ : Ren} {G : Nat → Nat} {w : World} {n : Nat} (out : ∀ r, n ≤ r → ρ r = none ∧ G r = 0) : ∀ (x : AV) (v : Value), RV ρ G w x v → NV n x
  | .s _, _, _ => by simp [NV]
  | .ref r g off, v, h => by
    obtain ⟨a, _, h1, h2⟩ := (by simpa only [RV] using h)
    simp only [NV]
    rcases Nat.lt_or_ge r n with hr | hr
    · exact hr
    · obtain ⟨o1, o2⟩ := out r hr
      obtain ⟨b, sh, hb, _⟩ := h2 (by omega)
      rw [o1] at hb; cases hb
  | .sl r g off esz len cap ex, v, h => by
    obtain ⟨b, o, c, _, _, _, _, h1, h2⟩ := (by simpa only [RV] using h)
    simp only [NV]
    rcases Nat.lt_or_ge r n with hr | hr
    · exact hr
    · obtain ⟨o1, o2⟩ := out r hr
      obtain ⟨sh, e, m, hb, _⟩ := h2 (by omega)
      rw [o1] at hb; cases hb
  | .ip cells, v, h => by
    obtain ⟨b, o, _, _, _, h1⟩ := (by simpa only [RV] using h)
    simp only [NV]; exact RVc.nv out cells b o h1
  | .vs m esz cells, v, h => by
    obtain ⟨b, o, c, _, _, _, _, _, h1⟩ := (by simpa only [RV] using h)
    simp only [NV]; exact RVc.nv out cells b o h1
  | .mp r, v, h => by
    obtain ⟨b, _, h1⟩ := (by simpa only [RV] using h)
    simp only [NV]
    rcases Nat.lt_or_ge r n with hr | hr
    · exact hr
    · obtain ⟨o1, o2⟩ := out r hr
      have := h1 o2
      rw [o1] at this; cases this
  | .fn f a c, v, h => by
    obtain ⟨a', c', _, h1, h2⟩ := (by simpa only [RV] using h)
    simp only [NV]; exact ⟨RVs.nv out a _ h1, RVs.nv out c _ h2⟩
  | .agg cells, v, h => by
    obtain ⟨cs, _, h1⟩ := (by simpa only [RV] using h)
    simp only [NV]; exact RVs.nv out cells _ h1
  | .tup cells, v, h => by
    obtain ⟨cs, _, h1⟩ := (by simpa only [RV] using h)
    simp only [NV]; exact RVs.nv out cells _ h1
theorem RVs.nv {ρ : Ren} {G : Nat → Nat} {w : World} {n : Nat} (out : ∀ r, n ≤ r → ρ r = none ∧ G r = 0) : ∀ (xs : List AV) (l : List Value), RVs ρ G w xs l → NVs n xs
  | [], _, _ => by simp [NVs]
  | x :: xs, l, h => by
    obtain ⟨y, ys, _, h1, h2⟩ := (by simpa only [RVs] using h)
    simp only [NVs]; exact ⟨RV.nv out x y h1, RVs.nv out xs ys h2⟩
theorem RVc.nv {ρ : Ren} {G : Nat → Nat} {w : World} {n : Nat} (out : ∀ r, n ≤ r → ρ r = none ∧ G r = 0) : ∀ (xs : List AV) (b o : Nat), RVc ρ G w xs b o → NVs n xs
  | [], _, _, _ => by simp [NVs]
  | x :: xs, b, o, h => by
    obtain ⟨⟨y, _, h1⟩, h2⟩ := (by simpa only [RVc] using h)
    simp only [NVs]; exact ⟨RV.nv out x y h1, RVc.nv out xs b (o + 1) h2⟩
end
/-- What a value wants to be kept. -/
structure Mono (ρ : Ren) (G : Nat → Nat) (w : World) (ρ' : Ren) (G' : Nat → Nat) (w' : World) : Prop where
  mono : ∀ r, G r ≤ G' r
  same : ∀ r x, ρ r = some x → G' r = G r → ρ' r = some x
  imm : ∀ b, b < w.heap.size → Imm ρ b → b < w'.heap.size ∧ Imm ρ' b ∧ ∀ o, w'.cell? ⟨b, o, none⟩ = w.cell? ⟨b, o, none⟩
  shape : ∀ b e m, w.shape? b = some (e, m) → w'.shape? b = some (e, m)
mutual
theorem RV.mono {ρ ρ' : Ren} {G G' : Nat → Nat} {w w' : World} (M : Mono ρ G w ρ' G' w') : ∀ (x : AV) (v : Value), RV ρ G w x v → RV ρ' G' w' x v
  | .s _, _, h => by simpa only [RV] using h
  | .ref r g off, v, h => by
    obtain ⟨a, e, h1, h2⟩ := (by simpa only [RV] using h)
    simp only [RV]
    have m := M.mono r
    refine ⟨a, e, by omega, fun hg => ?_⟩
    have he : G r = g := by omega
    obtain ⟨b, sh, hr, ha⟩ := h2 he
    exact ⟨b, sh, M.same r _ hr (by omega), ha⟩
  | .sl r g off esz len cap ex, v, h => by
    obtain ⟨b, o, c, e, k1, k2, k3, h1, h2⟩ := (by simpa only [RV] using h)
    simp only [RV]
    have m := M.mono r
    refine ⟨b, o, c, e, k1, k2, k3, by omega, fun hg => ?_⟩
    have he : G r = g := by omega
    obtain ⟨sh, ty, k, q1, q2, q3, q4⟩ := h2 he
    exact ⟨sh, ty, k, M.same r _ q1 (by omega), q2, M.shape _ _ _ q3, q4⟩
  | .ip cells, v, h => by
    obtain ⟨b, o, e, hb, hi, h1⟩ := (by simpa only [RV] using h)
    simp only [RV]
    obtain ⟨hb', hi', hc⟩ := M.imm b hb hi
    exact ⟨b, o, e, hb', hi', RVc.mono M cells b o (fun o v hv => by rw [hc]; exact hv) h1⟩
  | .vs m esz cells, v, h => by
    obtain ⟨b, o, c, e, k1, k2, hb, hi, h1⟩ := (by simpa only [RV] using h)
    simp only [RV]
    obtain ⟨hb', hi', hc⟩ := M.imm b hb hi
    exact ⟨b, o, c, e, k1, k2, hb', hi', RVc.mono M cells b o (fun o v hv => by rw [hc]; exact hv) h1⟩
  | .mp r, v, h => by
    obtain ⟨b, e, h1⟩ := (by simpa only [RV] using h)
    simp only [RV]
    have m := M.mono r
    refine ⟨b, e, fun hg => ?_⟩
    have he : G r = 0 := by omega
    exact M.same r _ (h1 he) (by omega)
  | .fn f a c, v, h => by
    obtain ⟨a', c', e, h1, h2⟩ := (by simpa only [RV] using h)
    simp only [RV]
    exact ⟨a', c', e, RVs.mono M a _ h1, RVs.mono M c _ h2⟩
  | .agg cells, v, h => by
    obtain ⟨cs, e, h1⟩ := (by simpa only [RV] using h)
    simp only [RV]
    exact ⟨cs, e, RVs.mono M cells _ h1⟩
  | .tup cells, v, h => by
    obtain ⟨cs, e, h1⟩ := (by simpa only [RV] using h)
    simp only [RV]
    exact ⟨cs, e, RVs.mono M cells _ h1⟩
theorem RVs.mono {ρ ρ' : Ren} {G G' : Nat → Nat} {w w' : World} (M : Mono ρ G w ρ' G' w') : ∀ (xs : List AV) (l : List Value), RVs ρ G w xs l → RVs ρ' G' w' xs l
  | [], _, h => by simpa only [RVs] using h
  | x :: xs, l, h => by
    obtain ⟨y, ys, e, h1, h2⟩ := (by simpa only [RVs] using h)
    simp only [RVs]
    exact ⟨y, ys, e, RV.mono M x y h1, RVs.mono M xs ys h2⟩
theorem RVc.mono {ρ ρ' : Ren} {G G' : Nat → Nat} {w w' : World} (M : Mono ρ G w ρ' G' w') : ∀ (xs : List AV) (b o : Nat), (∀ o v, w.cell? ⟨b, o, none⟩ = some v → w'.cell? ⟨b, o, none⟩ = some v) → RVc ρ G w xs b o → RVc ρ' G' w' xs b o
  | [], _, _, _, _ => by simp only [RVc]
  | x :: xs, b, o, hc, h => by
    obtain ⟨⟨y, e, h1⟩, h2⟩ := (by simpa only [RVc] using h)
    simp only [RVc]
    exact ⟨⟨y, hc _ _ e, RV.mono M x y h1⟩, RVc.mono M xs b (o + 1) hc h2⟩
end
/-- What a value with names below n wants, to be one of the smaller renaming. -/
structure Back (n : Nat) (ρ : Ren) (G : Nat → Nat) (ρ' : Ren) (G' : Nat → Nat) : Prop where
  gen : ∀ r, r < n → G' r = G r
  same : ∀ r, r < n → ρ' r = none ∨ ρ' r = ρ r
  sub : ∀ r x, ρ' r = some x → ρ r = some x
theorem Back.imm {n : Nat} {ρ ρ' : Ren} {G G' : Nat → Nat} (B : Back n ρ G ρ' G') {b : Nat} (h : Imm ρ b) : Imm ρ' b := fun r sh hr => h r sh (B.sub r _ hr)
mutual
/-- x, which had names of ρ' already once, has them still. -/
theorem RV.back {n : Nat} {ρ ρ' : Ren} {G G' : Nat → Nat} {w w0 : World} (B : Back n ρ G ρ' G') (out : ∀ r, n ≤ r → ρ' r = none ∧ G' r = 0) : ∀ (x : AV) (v v0 : Value), RV ρ' G' w0 x v0 → RV ρ G w x v → RV ρ' G' w x v
  | .s _, _, _, _, h => by simpa only [RV] using h
  | .ref r g off, v, v0, h0, h => by
    have hn := RV.nv out _ _ h0
    simp only [NV] at hn
    obtain ⟨a0, _, g1, g2⟩ := (by simpa only [RV] using h0)
    obtain ⟨a, e, h1, h2⟩ := (by simpa only [RV] using h)
    simp only [RV]
    refine ⟨a, e, by rw [B.gen r hn]; exact h1, fun hg => ?_⟩
    obtain ⟨b0, sh0, hr0, _⟩ := g2 hg
    obtain ⟨b, sh, hr, ha⟩ := h2 (by rw [← B.gen r hn]; exact hg)
    refine ⟨b, sh, ?_, ha⟩
    rcases B.same r hn with q | q
    · rw [q] at hr0; cases hr0
    · rw [q]; exact hr
  | .sl r g off esz len cap ex, v, v0, h0, h => by
    have hn := RV.nv out _ _ h0
    simp only [NV] at hn
    obtain ⟨_, _, _, _, _, _, _, _, g2⟩ := (by simpa only [RV] using h0)
    obtain ⟨b, o, c, e, k1, k2, k3, h1, h2⟩ := (by simpa only [RV] using h)
    simp only [RV]
    refine ⟨b, o, c, e, k1, k2, k3, by rw [B.gen r hn]; exact h1, fun hg => ?_⟩
    obtain ⟨_, _, _, hr0, _⟩ := g2 hg
    obtain ⟨sh, ty, k, q1, q2, q3, q4⟩ := h2 (by rw [← B.gen r hn]; exact hg)
    refine ⟨sh, ty, k, ?_, q2, q3, q4⟩
    rcases B.same r hn with q | q
    · rw [q] at hr0; cases hr0
    · rw [q]; exact q1
  | .ip cells, v, v0, h0, h => by
    obtain ⟨b0, o0, _, _, _, g1⟩ := (by simpa only [RV] using h0)
    obtain ⟨b, o, e, hb, hi, h1⟩ := (by simpa only [RV] using h)
    simp only [RV]
    exact ⟨b, o, e, hb, B.imm hi, RVc.back B out cells b o b0 o0 g1 h1⟩
  | .vs m esz cells, v, v0, h0, h => by
    obtain ⟨b0, o0, _, _, _, _, _, _, g1⟩ := (by simpa only [RV] using h0)
    obtain ⟨b, o, c, e, k1, k2, hb, hi, h1⟩ := (by simpa only [RV] using h)
    simp only [RV]
    exact ⟨b, o, c, e, k1, k2, hb, B.imm hi, RVc.back B out cells b o b0 o0 g1 h1⟩
  | .mp r, v, v0, h0, h => by
    have hn := RV.nv out _ _ h0
    simp only [NV] at hn
    obtain ⟨_, _, g1⟩ := (by simpa only [RV] using h0)
    obtain ⟨b, e, h1⟩ := (by simpa only [RV] using h)
    simp only [RV]
    refine ⟨b, e, fun hg => ?_⟩
    have := g1 hg
    rcases B.same r hn with q | q
    · rw [q] at this; cases this
    · rw [q]; exact h1 (by rw [← B.gen r hn]; exact hg)
  | .fn f a c, v, v0, h0, h => by
    obtain ⟨_, _, _, g1, g2⟩ := (by simpa only [RV] using h0)
    obtain ⟨a', c', e, h1, h2⟩ := (by simpa only [RV] using h)
    simp only [RV]
    exact ⟨a', c', e, RVs.back B out a _ _ g1 h1, RVs.back B out c _ _ g2 h2⟩
  | .agg cells, v, v0, h0, h => by
    obtain ⟨_, _, g1⟩ := (by simpa only [RV] using h0)
    obtain ⟨cs, e, h1⟩ := (by simpa only [RV] using h)
    simp only [RV]
    exact ⟨cs, e, RVs.back B out cells _ _ g1 h1⟩
  | .tup cells, v, v0, h0, h => by
    obtain ⟨_, _, g1⟩ := (by simpa only [RV] using h0)
    obtain ⟨cs, e, h1⟩ := (by simpa only [RV] using h)
    simp only [RV]
    exact ⟨cs, e, RVs.back B out cells _ _ g1 h1⟩
theorem RVs.back {n : Nat} {ρ ρ' : Ren} {G G' : Nat → Nat} {w w0 : World} (B : Back n ρ G ρ' G') (out : ∀ r, n ≤ r → ρ' r = none ∧ G' r = 0) : ∀ (xs : List AV) (l l0 : List Value), RVs ρ' G' w0 xs l0 → RVs ρ G w xs l → RVs ρ' G' w xs l
  | [], _, _, _, h => by simpa only [RVs] using h
  | x :: xs, l, l0, h0, h => by
    obtain ⟨_, _, _, g1, g2⟩ := (by simpa only [RVs] using h0)
    obtain ⟨y, ys, e, h1, h2⟩ := (by simpa only [RVs] using h)
    simp only [RVs]
    exact ⟨y, ys, e, RV.back B out x y _ g1 h1, RVs.back B out xs ys _ g2 h2⟩
theorem RVc.back {n : Nat} {ρ ρ' : Ren} {G G' : Nat → Nat} {w w0 : World} (B : Back n ρ G ρ' G') (out : ∀ r, n ≤ r → ρ' r = none ∧ G' r = 0) : ∀ (xs : List AV) (b o b0 o0 : Nat), RVc ρ' G' w0 xs b0 o0 → RVc ρ G w xs b o → RVc ρ' G' w xs b o
  | [], _, _, _, _, _, _ => by simp only [RVc]
  | x :: xs, b, o, b0, o0, h0, h => by
    obtain ⟨⟨_, _, g1⟩, g2⟩ := (by simpa only [RVc] using h0)
    obtain ⟨⟨y, e, h1⟩, h2⟩ := (by simpa only [RVc] using h)
    simp only [RVc]
    exact ⟨⟨y, e, RV.back B out x y _ g1 h1⟩, RVc.back B out xs b (o + 1) b0 (o0 + 1) g2 h2⟩
end
theorem RVm.nv {ρ : Ren} {G : Nat → Nat} {w : World} {n : Nat} (out : ∀ r, n ≤ r → ρ r = none ∧ G r = 0) {k : IntKind} : ∀ (es : List (Int × AV)) (l : List MapEntry), RVm ρ G w k es l → NVs n (es.map (·.2))
  | [], _, _ => by simp [NVs]
  | (m, x) :: xs, l, h => by
    obtain ⟨e, es, _, _, h1, h2⟩ := (by simpa only [RVm] using h)
    simp only [List.map_cons, NVs]; exact ⟨RV.nv out x _ h1, RVm.nv out xs es h2⟩
theorem RVm.mono {ρ ρ' : Ren} {G G' : Nat → Nat} {w w' : World} (M : Mono ρ G w ρ' G' w') {k : IntKind} : ∀ (xs : List (Int × AV)) (l : List MapEntry), RVm ρ G w k xs l → RVm ρ' G' w' k xs l
  | [], _, h => by simpa only [RVm] using h
  | (m, x) :: xs, l, h => by
    obtain ⟨e, es, e1, e2, h1, h2⟩ := (by simpa only [RVm] using h)
    simp only [RVm]
    exact ⟨e, es, e1, e2, RV.mono M x _ h1, RVm.mono M xs es h2⟩
theorem RVm.back {n : Nat} {ρ ρ' : Ren} {G G' : Nat → Nat} {w w0 : World} (B : Back n ρ G ρ' G') (out : ∀ r, n ≤ r → ρ' r = none ∧ G' r = 0) {k : IntKind} : ∀ (xs : List (Int × AV)) (l l0 : List MapEntry), RVm ρ' G' w0 k xs l0 → RVm ρ G w k xs l → RVm ρ' G' w k xs l
  | [], _, _, _, h => by simpa only [RVm] using h
  | (m, x) :: xs, l, l0, h0, h => by
    obtain ⟨_, _, _, _, g1, g2⟩ := (by simpa only [RVm] using h0)
    obtain ⟨e, es, e1, e2, h1, h2⟩ := (by simpa only [RVm] using h)
    simp only [RVm]
    exact ⟨e, es, e1, e2, RV.back B out x _ _ g1 h1, RVm.back B out xs es _ g2 h2⟩
theorem cell?_of_block {w w' : World} {b o : Nat} (h : w'.heap[b]? = w.heap[b]?) : w'.cell? ⟨b, o, none⟩ = w.cell? ⟨b, o, none⟩ := by
  simp only [World.cell?, h]
theorem shape?_lt {w : World} {b : Nat} {e : TypeId} {m : Nat} (h : w.shape? b = some (e, m)) : b < w.heap.size := by
  rcases Nat.lt_or_ge b w.heap.size with hb | hb
  · exact hb
  · simp [World.shape?, Array.getElem?_eq_none hb] at h
theorem Ext.toMono {ρ ρ' : Ren} {H H' : AHeap} {w w' : World} (E : Ext ρ H w ρ' H' w') : Mono ρ H.gen w ρ' H'.gen w' where
  mono := E.mono
  same := E.same
  imm := fun b hb hi => ⟨Nat.lt_of_lt_of_le hb E.size, fun r sh hr => by
      rcases E.range r b sh hr with h | ⟨sh', h⟩
      · omega
      · exact hi r sh' h, fun o => cell?_of_block (E.frame b hb hi)⟩
  shape := fun b e m h => by rw [E.shape b (shape?_lt h)]; exact h
theorem Ext.refl (ρ : Ren) (H : AHeap) (w : World) : Ext ρ H w ρ H w where
  next := Nat.le_refl _
  mono := fun _ => Nat.le_refl _
  same := fun _ _ h _ => h
  kept := fun _ _ h => h
  range := fun _ _ sh h => .inr ⟨sh, h⟩
  size := Nat.le_refl _
  frame := fun _ _ _ => rfl
  shape := fun _ _ => rfl
  os := rfl
  tape := rfl
  output := rfl
theorem Ext.trans {ρ ρ' ρ'' : Ren} {H H' H'' : AHeap} {w w' w'' : World} (E : Ext ρ H w ρ' H' w') (F : Ext ρ' H' w' ρ'' H'' w'') : Ext ρ H w ρ'' H'' w'' where
  next := Nat.le_trans E.next F.next
  mono := fun r => Nat.le_trans (E.mono r) (F.mono r)
  same := fun r x hr h => by
    have h1 := E.mono r
    have h2 := F.mono r
    exact F.same r x (E.same r x hr (by omega)) (by omega)
  kept := fun r hr h => F.kept r (Nat.lt_of_lt_of_le hr E.next) (E.kept r hr h)
  range := fun r b sh h => by
    rcases F.range r b sh h with h | ⟨sh', h⟩
    · exact .inl (Nat.le_trans E.size h)
    · exact E.range r b sh' h
  size := Nat.le_trans E.size F.size
  frame := fun b hb hi => by
    rw [F.frame b (Nat.lt_of_lt_of_le hb E.size) (E.toMono.imm b hb hi).2.1, E.frame b hb hi]
  shape := fun b hb => by rw [F.shape b (Nat.lt_of_lt_of_le hb E.size), E.shape b hb]
  os := F.os.trans E.os
  tape := F.tape.trans E.tape
  output := F.output.trans E.output
theorem Rel.keep {ρ ρ' : Ren} {H H' : AHeap} {w w' : World} (_R : Rel ρ H w) (E : Ext ρ H w ρ' H' w') {x : AV} {v : Value} (h : RV ρ H.gen w x v) : RV ρ' H'.gen w' x v :=
  RV.mono E.toMono x v h
theorem Rel.keeps {ρ ρ' : Ren} {H H' : AHeap} {w w' : World} (_R : Rel ρ H w) (E : Ext ρ H w ρ' H' w') {xs : List AV} {l : List Value} (h : RVs ρ H.gen w xs l) : RVs ρ' H'.gen w' xs l :=
  RVs.mono E.toMono xs l h

end Go.Proofs.YtjmldnpdfnklcaaDoor

namespace Go.Proofs.YtjmldnpdfnklcaaDoor

theorem RVs_nil {ρ : Ren} {G : Nat → Nat} {w : World} : RVs ρ G w [] [] := by simp only [RVs]
theorem RVs_cons {ρ : Ren} {G : Nat → Nat} {w : World} {x : AV} {y : Value} {xs : List AV} {ys : List Value} (h : RV ρ G w x y) (t : RVs ρ G w xs ys) : RVs ρ G w (x :: xs) (y :: ys) := by
  simp only [RVs]; exact ⟨y, ys, rfl, h, t⟩
theorem RVs_length {ρ : Ren} {G : Nat → Nat} {w : World} : ∀ {xs : List AV} {l : List Value}, RVs ρ G w xs l → l.length = xs.length
  | [], l, h => by simp only [RVs] at h; subst h; rfl
  | x :: xs, l, h => by
    simp only [RVs] at h
    obtain ⟨y, ys, rfl, _, h2⟩ := h
    simp [RVs_length h2]
theorem RVs_get {ρ : Ren} {G : Nat → Nat} {w : World} : ∀ {xs : List AV} {l : List Value}, RVs ρ G w xs l → ∀ {i : Nat} {x : AV}, xs[i]? = some x → ∃ v, l[i]? = some v ∧ RV ρ G w x v
  | [], l, h, i, x, hx => by simp at hx
  | y :: xs, l, h, i, x, hx => by
    simp only [RVs] at h
    obtain ⟨z, zs, rfl, h1, h2⟩ := h
    cases i with
    | zero => simp at hx; subst hx; exact ⟨z, rfl, h1⟩
    | succ i => simp at hx; simpa using RVs_get h2 hx
theorem RVs_of_get {ρ : Ren} {G : Nat → Nat} {w : World} : ∀ {xs : List AV} {l : List Value}, l.length = xs.length → (∀ (i : Nat) (x : AV), xs[i]? = some x → ∃ v, l[i]? = some v ∧ RV ρ G w x v) → RVs ρ G w xs l
  | [], l, h, _ => by cases l with | nil => exact RVs_nil | cons a l => simp at h
  | x :: xs, l, h, hg => by
    cases l with
    | nil => simp at h
    | cons y ys =>
      obtain ⟨v, hv, h1⟩ := hg 0 x rfl
      simp at hv; subst hv
      exact RVs_cons h1 (RVs_of_get (by simpa using h) fun i x hx => by simpa using hg (i + 1) x (by simpa using hx))
theorem RVs_append {ρ : Ren} {G : Nat → Nat} {w : World} : ∀ {xs ys : List AV} {l m : List Value}, RVs ρ G w xs l → RVs ρ G w ys m → RVs ρ G w (xs ++ ys) (l ++ m)
  | [], ys, l, m, h, h' => by simp only [RVs] at h; subst h; simpa using h'
  | x :: xs, ys, l, m, h, h' => by
    simp only [RVs] at h
    obtain ⟨z, zs, rfl, h1, h2⟩ := h
    exact RVs_cons h1 (RVs_append h2 h')
theorem RVs_take {ρ : Ren} {G : Nat → Nat} {w : World} (n : Nat) : ∀ {xs : List AV} {l : List Value}, RVs ρ G w xs l → RVs ρ G w (xs.take n) (l.take n) := by
  intro xs l h
  refine RVs_of_get (by simp [RVs_length h]) fun i x hx => ?_
  rw [List.getElem?_take] at hx
  split at hx
  · obtain ⟨v, hv, h1⟩ := RVs_get h hx
    exact ⟨v, by rw [List.getElem?_take, if_pos ‹_›]; exact hv, h1⟩
  · cases hx
theorem RVs_drop {ρ : Ren} {G : Nat → Nat} {w : World} (n : Nat) : ∀ {xs : List AV} {l : List Value}, RVs ρ G w xs l → RVs ρ G w (xs.drop n) (l.drop n) := by
  intro xs l h
  refine RVs_of_get (by simp [RVs_length h]) fun i x hx => ?_
  rw [List.getElem?_drop] at hx
  obtain ⟨v, hv, h1⟩ := RVs_get h hx
  exact ⟨v, by rw [List.getElem?_drop]; exact hv, h1⟩
theorem RVs_scalars {ρ : Ren} {G : Nat → Nat} {w : World} : ∀ (l : List Value), RVs ρ G w (l.map .s) l
  | [] => RVs_nil
  | v :: l => RVs_cons (by simp only [RV]) (RVs_scalars l)
theorem RVc_get {ρ : Ren} {G : Nat → Nat} {w : World} : ∀ {xs : List AV} {b o : Nat}, RVc ρ G w xs b o → ∀ {i : Nat} {x : AV}, xs[i]? = some x → ∃ v, w.cell? ⟨b, o + i, none⟩ = some v ∧ RV ρ G w x v
  | [], b, o, h, i, x, hx => by simp at hx
  | y :: xs, b, o, h, i, x, hx => by
    simp only [RVc] at h
    obtain ⟨⟨v, hv, h1⟩, h2⟩ := h
    cases i with
    | zero => simp at hx; subst hx; exact ⟨v, hv, h1⟩
    | succ i => simp at hx; have := RVc_get h2 hx; rwa [show o + 1 + i = o + (i + 1) from by omega] at this
theorem RVc_of_get {ρ : Ren} {G : Nat → Nat} {w : World} : ∀ {xs : List AV} {b o : Nat}, (∀ (i : Nat) (x : AV), xs[i]? = some x → ∃ v, w.cell? ⟨b, o + i, none⟩ = some v ∧ RV ρ G w x v) → RVc ρ G w xs b o
  | [], _, _, _ => by simp only [RVc]
  | x :: xs, b, o, h => by
    simp only [RVc]
    exact ⟨h 0 x rfl, RVc_of_get fun i y hy => by have := h (i + 1) y (by simpa using hy); rwa [show o + (i + 1) = o + 1 + i from by omega] at this⟩
theorem RVc_drop {ρ : Ren} {G : Nat → Nat} {w : World} {xs : List AV} {b o : Nat} (n : Nat) (h : RVc ρ G w xs b o) : RVc ρ G w (xs.drop n) b (o + n) :=
  RVc_of_get fun i x hx => by
    rw [List.getElem?_drop] at hx
    have := RVc_get h hx
    rwa [show o + (n + i) = o + n + i from by omega] at this
theorem RVc_take {ρ : Ren} {G : Nat → Nat} {w : World} {xs : List AV} {b o : Nat} (n : Nat) (h : RVc ρ G w xs b o) : RVc ρ G w (xs.take n) b o :=
  RVc_of_get fun i x hx => by
    rw [List.getElem?_take] at hx
    split at hx
    · exact RVc_get h hx
    · cases hx
theorem RVc_append {ρ : Ren} {G : Nat → Nat} {w : World} {xs ys : List AV} {b o : Nat} (h : RVc ρ G w xs b o) (h' : RVc ρ G w ys b (o + xs.length)) : RVc ρ G w (xs ++ ys) b o :=
  RVc_of_get fun i x hx => by
    rw [List.getElem?_append] at hx
    split at hx
    · exact RVc_get h hx
    · rename_i hi
      have := RVc_get h' hx
      rwa [show o + xs.length + (i - xs.length) = o + i from by omega] at this
/-- The cells of an array of the model that lie in a block. -/
theorem RVc_of_array {ρ : Ren} {G : Nat → Nat} {w : World} {b o : Nat} {cs : Array Value} {e : TypeId} {fr : Nat × Nat} (hb : w.heap[b]? = some (.cells cs e fr)) {xs : List AV}
    (h : ∀ (i : Nat) (x : AV), xs[i]? = some x → ∃ v, cs[o + i]? = some v ∧ RV ρ G w x v) : RVc ρ G w xs b o :=
  RVc_of_get fun i x hx => by
    obtain ⟨v, hv, h1⟩ := h i x hx
    exact ⟨v, by simp [World.cell?, hb, hv], h1⟩
theorem RVc_array {ρ : Ren} {G : Nat → Nat} {w : World} {b o : Nat} {cs : Array Value} {e : TypeId} {fr : Nat × Nat} (hb : w.heap[b]? = some (.cells cs e fr)) {xs : List AV}
    (h : RVc ρ G w xs b o) : ∀ {i : Nat} {x : AV}, xs[i]? = some x → ∃ v, cs[o + i]? = some v ∧ RV ρ G w x v := by
  intro i x hx
  obtain ⟨v, hv, h1⟩ := RVc_get h hx
  exact ⟨v, by simpa [World.cell?, hb] using hv, h1⟩
theorem add_plain (b o n : Nat) : Addr.add ⟨b, o, none⟩ n = ⟨b, o + n, none⟩ := Addr.add_lit b o n
theorem run_load_of {P : Program} {w : World} {a : Addr} {v : Value} (h : w.cell? a = some v) : (load a).run P w = .ok v w := by simp [h]
theorem run_loadCellsFrom {P : Program} {ρ : Ren} {G : Nat → Nat} {w : World} {b o : Nat} : ∀ (xs : List AV) (i : Nat) (acc : Array Value), RVc ρ G w xs b (o + i) →
    ∃ l : List Value, (loadCellsFrom ⟨b, o, none⟩ i xs.length acc).run P w = .ok (acc ++ l.toArray) w ∧ RVs ρ G w xs l
  | [], i, acc, _ => ⟨[], by simp [loadCellsFrom], RVs_nil⟩
  | x :: xs, i, acc, h => by
    simp only [RVc] at h
    obtain ⟨⟨v, hv, h1⟩, h2⟩ := h
    obtain ⟨l, hl, h3⟩ := run_loadCellsFrom (P := P) xs (i + 1) (acc.push v) (by rw [← Nat.add_assoc]; exact h2)
    refine ⟨v :: l, ?_, RVs_cons h1 h3⟩
    simp only [List.length_cons, loadCellsFrom, Sem.run_bind, add_plain, run_load_of hv, Result.andThen_ok]
    rw [hl]; simp
theorem run_loadCells {P : Program} {ρ : Ren} {G : Nat → Nat} {w : World} {b o : Nat} {xs : List AV} (h : RVc ρ G w xs b o) :
    ∃ l : List Value, (loadCells ⟨b, o, none⟩ xs.length).run P w = .ok l.toArray w ∧ RVs ρ G w xs l := by
  obtain ⟨l, hl, h1⟩ := run_loadCellsFrom (P := P) xs 0 #[] (by simpa using h)
  exact ⟨l, by simpa [loadCells] using hl, h1⟩
theorem run_info {P : Program} {t : TypeId} {i : TypeInfo} (h : P.info? t = some i) (w : World) : (typeInfo t).run P w = .ok i w := by
  simp [typeInfo, h]
theorem run_sizeOf {P : Program} {t : TypeId} {n : Nat} (h : szT P t = some n) (w : World) : (sizeOf t).run P w = .ok n w := by
  unfold szT at h
  cases hi : P.info? t with
  | none => simp [hi] at h
  | some i => simp [hi] at h; subst h; simp [sizeOf, run_info hi]
theorem zeroT_lt' {P : Program} {t : TypeId} {z : Value} (h : (if t < tagB then (P.info? t).bind (·.zero) else none) = some z) : t < tagB := by
  split at h
  · assumption
  · cases h
theorem zeroT_lt {P : Program} {t : TypeId} {z : Value} (h : zeroT P t = some z) : t < tagB := zeroT_lt' h
theorem zeroT_of {P : Program} {t : TypeId} {z : Value} (h : zeroT P t = some z) : (P.info? t).bind (·.zero) = some z := by
  have := zeroT_lt h
  unfold zeroT at h
  rwa [if_pos this] at h
theorem run_zeroValue {P : Program} {t : TypeId} {z : Value} (h : zeroT P t = some z) (w : World) : (zeroValue t).run P w = .ok z w := by
  unfold zeroT at h
  rw [if_pos (zeroT_lt' h)] at h
  cases hi : P.info? t with
  | none => simp [hi] at h
  | some i => simp [hi] at h; simp [zeroValue, run_info hi, h]
theorem run_isAgg {P : Program} {t : TypeId} {b : Bool} (h : aggT P t = some b) (w : World) : (isAgg t).run P w = .ok b w := by
  unfold aggT at h
  cases hu : P.underlying t with
  | none => simp [hu] at h
  | some d => cases d <;> simp [hu] at h <;> subst h <;> simp [isAgg, run_underlying hu]
theorem run_loadVar {P : Program} {ρ : Ren} {G : Nat → Nat} {w : World} {b o : Nat} {cells : List AV} (h : RVc ρ G w cells b o) {t : TypeId} {off : Nat} {v : AV} (hp : partL P t cells off = some v) :
    ∃ cv, (loadVar t ⟨b, o + off, none⟩).run P w = .ok cv w ∧ RV ρ G w v cv := by
  unfold partL at hp
  cases ha : aggT P t with
  | none => simp [ha] at hp
  | some k =>
    cases hs : szT P t with
    | none => simp [ha, hs] at hp
    | some n =>
      cases k with
      | true =>
        simp [ha, hs] at hp
        obtain ⟨hle, rfl⟩ := hp
        obtain ⟨l, hl, h1⟩ := run_loadCells (P := P) (RVc_take n (RVc_drop off h))
        refine ⟨.agg l.toArray, ?_, ?_⟩
        · have hlen : (List.take n (List.drop off cells)).length = n := by simp; omega
          rw [hlen] at hl
          simp [loadVar, run_isAgg ha, run_sizeOf hs, hl]
        · simp only [RV]; exact ⟨_, rfl, h1⟩
      | false =>
        simp [ha, hs] at hp
        obtain ⟨cv, hc, h1⟩ := RVc_get h hp
        exact ⟨cv, by simp [loadVar, run_isAgg ha, hc], h1⟩

end Go.Proofs.YtjmldnpdfnklcaaDoor

namespace Go.Proofs.YtjmldnpdfnklcaaDoor

def setBlk (w : World) (b : Nat) (o : Obj) : World := { w with heap := w.heap.setIfInBounds b o }
def updρ (ρ : Ren) (r : Nat) (x : Nat × Nat) : Ren := fun y => if y = r then some x else ρ y
theorem setBlk_same {w : World} {b : Nat} {o : Obj} (h : b < w.heap.size) : (setBlk w b o).heap[b]? = some o := by
  simp [setBlk, h]
theorem setBlk_ne {w : World} {b b' : Nat} {o : Obj} (h : b' ≠ b) : (setBlk w b o).heap[b']? = w.heap[b']? := by
  simp [setBlk, Array.getElem?_setIfInBounds_ne (Ne.symm h)]
theorem setBlk_setBlk (w : World) (b : Nat) (o o' : Obj) : setBlk (setBlk w b o) b o' = setBlk w b o' := by
  simp [setBlk]
theorem setBlk_self {w : World} {b : Nat} {o : Obj} (h : w.heap[b]? = some o) : setBlk w b o = w := by
  have hb : b < w.heap.size := by
    rcases Nat.lt_or_ge b w.heap.size with hb | hb
    · exact hb
    · simp [Array.getElem?_eq_none hb] at h
  have : w.heap.setIfInBounds b o = w.heap := by
    apply Array.ext_getElem?
    intro i
    by_cases hi : b = i
    · subst hi
      rw [Array.getElem?_eq_getElem hb] at h
      simp only [Array.getElem?_setIfInBounds_self_of_lt hb, Array.getElem?_eq_getElem hb, h]
    · simp [Array.getElem?_setIfInBounds_ne hi]
  simp [setBlk, this]
theorem lt_of_heap {w : World} {b : Nat} {o : Obj} (h : w.heap[b]? = some o) : b < w.heap.size := by
  rcases Nat.lt_or_ge b w.heap.size with hb | hb
  · exact hb
  · simp [Array.getElem?_eq_none hb] at h
theorem Rel.lt {ρ : Ren} {H : AHeap} {w : World} (R : Rel ρ H w) {r b sh : Nat} (h : ρ r = some (b, sh)) : r < H.next := by
  rcases Nat.lt_or_ge r H.next with hr | hr
  · exact hr
  · rw [(R.out r hr).1] at h; cases h
theorem Rel.block {ρ : Ren} {H : AHeap} {w : World} (R : Rel ρ H w) {r b sh : Nat} (h : ρ r = some (b, sh)) : b < w.heap.size := by
  have := R.obj r b sh h
  unfold RObj at this
  split at this
  · obtain ⟨cs, e, hb, _⟩ := this; exact lt_of_heap hb
  · obtain ⟨cs, e, hb, _⟩ := this; exact lt_of_heap hb
def oshape : Obj → Option (TypeId × Nat)
  | .cells c e _ => some (e, c.size)
  | _ => none
theorem shape?_eq (w : World) (b : Nat) : w.shape? b = (w.heap[b]?).bind oshape := by
  unfold World.shape? oshape
  cases w.heap[b]? with
  | none => rfl
  | some o => cases o <;> rfl
theorem put_gen (H : AHeap) (r x : Nat) (o : AObj) : (H.put r o).gen x = if x = r then o.gen else H.gen x := by
  simp only [AHeap.gen, AHeap.put]; split <;> rfl
theorem new_gen (H : AHeap) (x : Nat) (o : AObj) : (H.new o).gen x = if x = H.next then o.gen else H.gen x := by
  simp only [AHeap.gen, AHeap.new]; split <;> rfl
theorem put_ext {ρ : Ren} {H : AHeap} {w : World} {r b sh sh' : Nat} {co co' : Obj} {o : AObj} (hr : ρ r = some (b, sh)) (hb : w.heap[b]? = some co)
    (hs : oshape co' = oshape co) (hg : H.gen r ≤ o.gen) (hsh : o.gen = H.gen r → sh' = sh) : Ext ρ H w (updρ ρ r (b, sh')) (H.put r o) (setBlk w b co') where
  next := Nat.le_refl _
  mono := fun x => by rw [put_gen]; split <;> simp_all
  same := fun x y hx h => by
    rw [put_gen] at h
    unfold updρ
    split
    · rename_i e; subst e; simp at h; rw [hsh h, ← hr, hx]
    · exact hx
  kept := fun x _ h => by
    unfold updρ
    split
    · rename_i e; subst e; rw [hr] at h; cases h
    · exact h
  range := fun x b' s h => by
    unfold updρ at h
    split at h
    · cases h; rename_i e; subst e; exact .inr ⟨_, hr⟩
    · exact .inr ⟨_, h⟩
  size := by simp [setBlk]
  frame := fun b' hb' hi => setBlk_ne fun e => hi r sh (e ▸ hr)
  shape := fun b' hb' => by
    rw [shape?_eq, shape?_eq]
    by_cases e : b' = b
    · subst e; rw [setBlk_same hb', hb]; exact hs
    · rw [setBlk_ne e]
  os := rfl
  tape := rfl
  output := rfl
theorem RObj.mono {ρ ρ' : Ren} {G G' : Nat → Nat} {w w' : World} (M : Mono ρ G w ρ' G' w') {o : AObj} {b sh : Nat} (hb : w'.heap[b]? = w.heap[b]?) (h : RObj ρ G w o b sh) : RObj ρ' G' w' o b sh := by
  unfold RObj at *
  split at h
  · obtain ⟨cs, e, h1, h2, h3⟩ := h
    exact ⟨cs, e, by rw [hb]; exact h1, h2, RVc.mono M _ _ _ (fun o v hv => by rw [cell?_of_block hb]; exact hv) h3.1, h3.2⟩
  · obtain ⟨cs, e, h1, h2, h3⟩ := h
    exact ⟨cs, e, by rw [hb]; exact h1, h2, RVm.mono M _ _ h3.1, h3.2⟩
theorem put_rel {ρ : Ren} {H : AHeap} {w : World} (R : Rel ρ H w) {r b sh sh' : Nat} {co' : Obj} {o : AObj} (hr : ρ r = some (b, sh))
    (E : Ext ρ H w (updρ ρ r (b, sh')) (H.put r o) (setBlk w b co'))
    (ho : RObj (updρ ρ r (b, sh')) (H.put r o).gen (setBlk w b co') o b sh') : Rel (updρ ρ r (b, sh')) (H.put r o) (setBlk w b co') where
  out := fun x hx => by
    have hne : x ≠ r := fun e => by have := R.lt hr; subst e; exact absurd hx (by simpa [AHeap.put] using this)
    rw [put_gen, if_neg hne]
    unfold updρ; rw [if_neg hne]
    exact R.out x hx
  obj := fun x b' s h => by
    unfold updρ at h
    by_cases e : x = r
    · subst e
      simp at h
      obtain ⟨rfl, rfl⟩ := h
      simpa [AHeap.put] using ho
    · rw [if_neg e] at h
      have hne : b' ≠ b := fun e' => e (R.inj x r b' s sh h (e' ▸ hr))
      have : (H.put r o).get x = H.get x := by simp [AHeap.put, e]
      rw [this]
      exact RObj.mono E.toMono (setBlk_ne hne) (R.obj x b' s h)
  inj := fun x y b' s s' h h' => by
    unfold updρ at h h'
    split at h <;> split at h'
    · simp_all
    · cases h; rename_i e _; subst e; exact (R.inj _ _ _ _ _ h' hr).symm
    · cases h'; rename_i _ e; subst e; exact R.inj _ _ _ _ _ h hr
    · exact R.inj _ _ _ _ _ h h'
  gl := R.gl.ext E
theorem new_ext {ρ : Ren} {H : AHeap} {w : World} (R : Rel ρ H w) {co : Obj} {o : AObj} : Ext ρ H w (updρ ρ H.next (w.heap.size, 0)) (H.new o) (w.alloc co) where
  next := by simp [AHeap.new]
  mono := fun x => by
    rw [new_gen]
    split
    · rename_i e; subst e; rw [(R.out _ (Nat.le_refl _)).2]; exact Nat.zero_le _
    · exact Nat.le_refl _
  same := fun x y hx _ => by
    have hne : x ≠ H.next := fun e => by subst e; rw [(R.out _ (Nat.le_refl _)).1] at hx; cases hx
    unfold updρ; rw [if_neg hne]; exact hx
  kept := fun x hx h => by
    unfold updρ
    rw [if_neg (by omega)]; exact h
  range := fun x b' s h => by
    unfold updρ at h
    split at h
    · cases h; exact .inl (Nat.le_refl _)
    · exact .inr ⟨_, h⟩
  size := by simp
  frame := fun b hb _ => by simp only [World.alloc, Array.getElem?_push, if_neg (Nat.ne_of_lt hb)]
  shape := fun b hb => by
    rw [shape?_eq, shape?_eq]
    simp only [World.alloc, Array.getElem?_push, if_neg (Nat.ne_of_lt hb)]
  os := rfl
  tape := rfl
  output := rfl
theorem new_rel {ρ : Ren} {H : AHeap} {w : World} (R : Rel ρ H w) {co : Obj} {o : AObj}
    (ho : RObj (updρ ρ H.next (w.heap.size, 0)) (H.new o).gen (w.alloc co) o w.heap.size 0) : Rel (updρ ρ H.next (w.heap.size, 0)) (H.new o) (w.alloc co) where
  out := fun x hx => by
    have hx1 : H.next + 1 ≤ x := hx
    have hne : x ≠ H.next := by omega
    have hx' : H.next ≤ x := by omega
    rw [new_gen, if_neg hne]
    unfold updρ; rw [if_neg hne]
    exact R.out x hx'
  obj := fun x b' s h => by
    unfold updρ at h
    by_cases e : x = H.next
    · subst e
      simp at h
      obtain ⟨rfl, rfl⟩ := h
      simpa [AHeap.new] using ho
    · rw [if_neg e] at h
      have : (H.new o).get x = H.get x := by simp [AHeap.new, e]
      rw [this]
      have hb := R.block h
      exact RObj.mono (new_ext R (o := o) (co := co)).toMono (by simp only [World.alloc, Array.getElem?_push, if_neg (Nat.ne_of_lt hb)]) (R.obj x b' s h)
  inj := fun x y b' s s' h h' => by
    unfold updρ at h h'
    split at h <;> split at h'
    · simp_all
    · cases h; have := R.block h'; omega
    · cases h'; have := R.block h; omega
    · exact R.inj _ _ _ _ _ h h'
  gl := R.gl.ext (new_ext R (o := o) (co := co))
theorem alloc_heap (w : World) (o : Obj) : (w.alloc o).heap[w.heap.size]? = some o := by
  show (w.heap.push o)[w.heap.size]? = some o
  simp
/-- A new row of cells. -/
theorem new_blk {ρ : Ren} {H : AHeap} {w : World} (R : Rel ρ H w) {e ty : TypeId} {cells : List AV} {cs : Array Value} (hl : cells.length ≤ cs.size)
    (hc : ∀ (i : Nat) (x : AV), cells[i]? = some x → ∃ v, cs[i]? = some v ∧ RV ρ H.gen w x v) (hX : Xct ty e 0 cs.size cells.length) :
    Rel (updρ ρ H.next (w.heap.size, 0)) (H.new (.blk 0 ty cells)) (w.alloc (.cells cs e)) ∧ Ext ρ H w (updρ ρ H.next (w.heap.size, 0)) (H.new (.blk 0 ty cells)) (w.alloc (.cells cs e)) := by
  have E := new_ext R (o := .blk 0 ty cells) (co := .cells cs e)
  refine ⟨new_rel R ⟨cs, e, alloc_heap w _, by omega, ?_, hX⟩, E⟩
  refine RVc_of_array (alloc_heap w _) fun i x hx => ?_
  obtain ⟨v, hv, h1⟩ := hc i x hx
  exact ⟨v, by simpa using hv, R.keep E h1⟩
/-- A row of cells is another one. -/
theorem put_blk {ρ : Ren} {H : AHeap} {w : World} (R : Rel ρ H w) {r b sh sh' g' : Nat} {ty' : TypeId} {cells' : List AV} {cs cs' : Array Value} {e : TypeId} (hr : ρ r = some (b, sh))
    (hb : w.heap[b]? = some (.cells cs e (0, 0))) (hz : cs'.size = cs.size) (hg : H.gen r ≤ g') (hsh : g' = H.gen r → sh' = sh) (hl : sh' + cells'.length ≤ cs.size)
    (hc : ∀ (i : Nat) (x : AV), cells'[i]? = some x → ∃ v, cs'[sh' + i]? = some v ∧ RV ρ H.gen w x v) (hX : Xct ty' e sh' cs'.size cells'.length) :
    Rel (updρ ρ r (b, sh')) (H.put r (.blk g' ty' cells')) (setBlk w b (.cells cs' e (0, 0))) ∧ Ext ρ H w (updρ ρ r (b, sh')) (H.put r (.blk g' ty' cells')) (setBlk w b (.cells cs' e (0, 0))) := by
  have E := put_ext (ρ := ρ) (H := H) (w := w) (r := r) (b := b) (sh := sh) (sh' := sh') (co := .cells cs e (0, 0)) (co' := .cells cs' e (0, 0)) (o := .blk g' ty' cells') hr hb (by simp [oshape, hz]) hg hsh
  refine ⟨put_rel R hr E ⟨cs', e, setBlk_same (R.block hr), by omega, ?_, hX⟩, E⟩
  refine RVc_of_array (setBlk_same (R.block hr)) fun i x hx => ?_
  obtain ⟨v, hv, h1⟩ := hc i x hx
  exact ⟨v, hv, R.keep E h1⟩
theorem put_map {ρ : Ren} {H : AHeap} {w : World} (R : Rel ρ H w) {r b : Nat} {k : IntKind} {es es' : List (Int × AV)} {ces ces' : Array MapEntry} {cl cl' : Nat} (hr : ρ r = some (b, 0)) (hget : H.get r = .map k es)
    (hb : w.heap[b]? = some (.map ces cl)) (hc : RVm ρ H.gen w k es' ces'.toList) (hbn : Born ces'.toList cl') :
    Rel ρ (H.put r (.map k es')) (setBlk w b (.map ces' cl')) ∧ Ext ρ H w ρ (H.put r (.map k es')) (setBlk w b (.map ces' cl')) := by
  have hρ : updρ ρ r (b, 0) = ρ := by
    funext x; unfold updρ; split
    · rename_i e; subst e; exact hr.symm
    · rfl
  have hg0 : H.gen r = 0 := by simp [AHeap.gen, hget, AObj.gen]
  have E := put_ext (ρ := ρ) (H := H) (w := w) (r := r) (b := b) (sh := 0) (sh' := 0) (co := .map ces cl) (co' := .map ces' cl') (o := .map k es') hr hb rfl (by simp [hg0]) (fun _ => rfl)
  have := put_rel R hr E ⟨ces', cl', setBlk_same (R.block hr), rfl, RVm.mono E.toMono _ _ hc, hbn⟩
  rw [hρ] at this E
  exact ⟨this, E⟩
def setMany (cs : Array Value) (o : Nat) : List Value → Array Value
  | [] => cs
  | v :: vs => setMany (cs.setIfInBounds o v) (o + 1) vs
theorem setMany_size : ∀ (vs : List Value) (cs : Array Value) (o : Nat), (setMany cs o vs).size = cs.size
  | [], _, _ => rfl
  | v :: vs, cs, o => by simp [setMany, setMany_size vs]
theorem setMany_get : ∀ (vs : List Value) (cs : Array Value) (o i : Nat), o + vs.length ≤ cs.size → (setMany cs o vs)[i]? = if o ≤ i ∧ i < o + vs.length then vs[i - o]? else cs[i]?
  | [], cs, o, i, h => by
    simp only [setMany, List.length_nil, Nat.add_zero]
    rw [if_neg (by omega)]
  | v :: vs, cs, o, i, h => by
    simp only [List.length_cons] at h
    simp only [setMany, List.length_cons]
    rw [setMany_get vs _ (o + 1) i (by simp; omega)]
    by_cases h1 : o = i
    · subst h1
      rw [if_neg (by omega), if_pos (by omega)]
      simp [show o < cs.size from by omega]
    · by_cases h2 : o + 1 ≤ i ∧ i < o + 1 + vs.length
      · rw [if_pos h2, if_pos (by omega), show i - o = (i - (o + 1)) + 1 from by omega]; rfl
      · rw [if_neg h2, if_neg (by omega), Array.getElem?_setIfInBounds_ne h1]
theorem run_store_block {P : Program} {w : World} {b o : Nat} {cs : Array Value} {e : TypeId} {v : Value} (hb : w.heap[b]? = some (.cells cs e (0, 0))) (ho : o < cs.size) (hv : v.oneCell' = true) :
    (store ⟨b, o, none⟩ v).run P w = .ok () (setBlk w b (.cells (cs.setIfInBounds o v) e (0, 0))) := by
  have hc : w.cell? ⟨b, o, none⟩ = some cs[o] := by simp [World.cell?, hb, ho]
  have hf : w.frozen? ⟨b, o, none⟩ = false := by simp [World.frozen?, hb]
  rw [run_store P w _ v _ hv, hc]
  simp only [hf, if_false, Bool.false_eq_true]
  have hlt := lt_of_heap hb
  have : w.setCell ⟨b, o, none⟩ v = setBlk w b (.cells (cs.setIfInBounds o v) e (0, 0)) := by
    simp only [World.setCell, setBlk]
    congr 1
    apply Array.ext_getElem?
    intro i
    rw [Array.getElem?_modify]
    by_cases hi : b = i
    · subst hi
      rw [hb]
      simp [hlt]
    · simp [hi, Array.getElem?_setIfInBounds_ne hi]
  rw [this]
theorem run_storeCells {P : Program} {b o : Nat} {e : TypeId} : ∀ (vs : List Value) (w : World) (cs : Array Value) (i : Nat), w.heap[b]? = some (.cells cs e (0, 0)) → o + i + vs.length ≤ cs.size → (∀ v ∈ vs, v.oneCell' = true) →
    (storeCells ⟨b, o, none⟩ vs i).run P w = .ok () (setBlk w b (.cells (setMany cs (o + i) vs) e (0, 0)))
  | [], w, cs, i, hb, _, _ => by simp [storeCells, setMany, setBlk_self hb]
  | v :: vs, w, cs, i, hb, hl, hv => by
    simp only [List.length_cons] at hl
    simp only [storeCells, Sem.run_bind, add_plain, run_store_block hb (show o + i < cs.size by omega) (hv v (by simp)), Result.andThen_ok]
    rw [run_storeCells vs _ (cs.setIfInBounds (o + i) v) (i + 1) (setBlk_same (lt_of_heap hb)) (by simp; omega) (fun u hu => hv u (by simp [hu])), setBlk_setBlk]
    rfl
theorem oneCell_of {ρ : Ren} {G : Nat → Nat} {w : World} {x : AV} {v : Value} (hx : x.isCell = true) (h : RV ρ G w x v) : v.oneCell' = true := by
  cases x with
  | s u =>
    simp only [RV] at h; subst h
    cases v <;> simp_all [AV.isCell, Value.oneCell']
  | ref r g off => simp only [RV] at h; obtain ⟨a, rfl, _⟩ := h; rfl
  | sl r g off esz len cap ex => simp only [RV] at h; obtain ⟨b, o, c, rfl, _⟩ := h; rfl
  | ip cells => simp only [RV] at h; obtain ⟨b, o, rfl, _⟩ := h; rfl
  | vs n esz cells => simp only [RV] at h; obtain ⟨b, o, c, rfl, _⟩ := h; rfl
  | mp r => simp only [RV] at h; obtain ⟨b, rfl, _⟩ := h; rfl
  | fn f a c => simp only [RV] at h; obtain ⟨a, c, rfl, _⟩ := h; rfl
  | agg l => simp [AV.isCell] at hx
  | tup l => simp [AV.isCell] at hx
theorem oneCells_of {ρ : Ren} {G : Nat → Nat} {w : World} {xs : List AV} {l : List Value} (hx : xs.all AV.isCell = true) (h : RVs ρ G w xs l) : ∀ v ∈ l, v.oneCell' = true := by
  intro v hv
  obtain ⟨i, hi, rfl⟩ := List.getElem_of_mem hv
  have hl := RVs_length h
  have hxi : xs[i]? = some (xs[i]'(by omega)) := List.getElem?_eq_getElem _
  obtain ⟨u, hu, h1⟩ := RVs_get h hxi
  rw [List.getElem?_eq_getElem hi] at hu
  cases hu
  exact oneCell_of (List.all_eq_true.1 hx _ (List.getElem_mem _)) h1
/-- The cells of a value. -/
theorem RV_cells {ρ : Ren} {G : Nat → Nat} {w : World} {x : AV} {v : Value} (h : RV ρ G w x v) : RVs ρ G w x.cells v.cells.toList := by
  cases x with
  | s u => simp only [RV] at h; subst h; exact RVs_scalars _
  | agg l => simp only [RV] at h; obtain ⟨cs, rfl, h1⟩ := h; exact h1
  | ref r g off =>
    have h' := h
    simp only [RV] at h; obtain ⟨a, rfl, _⟩ := h; exact RVs_cons h' RVs_nil
  | sl r g off esz len cap ex => have h' := h; simp only [RV] at h; obtain ⟨b, o, c, rfl, _⟩ := h; exact RVs_cons h' RVs_nil
  | ip cells => have h' := h; simp only [RV] at h; obtain ⟨b, o, rfl, _⟩ := h; exact RVs_cons h' RVs_nil
  | vs n esz cells => have h' := h; simp only [RV] at h; obtain ⟨b, o, c, rfl, _⟩ := h; exact RVs_cons h' RVs_nil
  | mp r => have h' := h; simp only [RV] at h; obtain ⟨b, rfl, _⟩ := h; exact RVs_cons h' RVs_nil
  | fn f a c => have h' := h; simp only [RV] at h; obtain ⟨a, c, rfl, _⟩ := h; exact RVs_cons h' RVs_nil
  | tup l => have h' := h; simp only [RV] at h; obtain ⟨cs, rfl, _⟩ := h; exact RVs_cons h' RVs_nil
theorem setAt_get (cells : List AV) (off : Nat) (xs : List AV) (h : off + xs.length ≤ cells.length) (i : Nat) : (setAt cells off xs)[i]? = if off ≤ i ∧ i < off + xs.length then xs[i - off]? else cells[i]? := by
  unfold setAt
  rw [List.getElem?_append]
  simp only [List.length_take]
  rw [Nat.min_eq_left (by omega)]
  by_cases h1 : i < off
  · rw [if_pos h1, if_neg (by omega), List.getElem?_take, if_pos h1]
  · rw [if_neg h1, List.getElem?_append]
    by_cases h2 : i - off < xs.length
    · rw [if_pos h2, if_pos (by omega)]
    · rw [if_neg h2, if_neg (by omega), List.getElem?_drop]
      congr 1; omega
theorem setAt_length (cells : List AV) (off : Nat) (xs : List AV) (h : off + xs.length ≤ cells.length) : (setAt cells off xs).length = cells.length := by
  simp [setAt]; omega

end Go.Proofs.YtjmldnpdfnklcaaDoor

namespace Go.Proofs.YtjmldnpdfnklcaaDoor

/-- In the world that H stands for, s yields what v stands for, and the world is then what H' stands for. -/
def Ok (P : Program) (ρ : Ren) (H : AHeap) (w : World) (s : Sem Value) (v : AV) (H' : AHeap) : Prop :=
  ∃ cv ρ' w', s.run P w = .ok cv w' ∧ Rel ρ' H' w' ∧ RV ρ' H'.gen w' v cv ∧ Ext ρ H w ρ' H' w'
def OkP (P : Program) (ρ : Ren) (G : Nat → Nat) (w : World) (s : Sem Value) (v : AV) : Prop := ∃ cv, s.run P w = .ok cv w ∧ RV ρ G w v cv
theorem OkP.ok {P : Program} {ρ : Ren} {H : AHeap} {w : World} {s : Sem Value} {v : AV} (h : OkP P ρ H.gen w s v) (R : Rel ρ H w) : Ok P ρ H w s v H :=
  let ⟨cv, h1, h2⟩ := h; ⟨cv, ρ, w, h1, R, h2, Ext.refl _ _ _⟩
theorem pureRun_run {α : Type} {P : Program} {s : Sem α} {a : α} (h : pureRun P s = some a) (w : World) : s.run P w = .ok a w := by
  induction s with
  | pure b => simp [pureRun] at h; subst h; rfl
  | program k ih => exact ih P h
  | _ => simp [pureRun] at h
mutual
theorem val_of {ρ : Ren} {G : Nat → Nat} {w : World} : ∀ (x : AV) (v u : Value), RV ρ G w x v → x.val? = some u → v = u
  | .s _, v, u, h, hu => by simp only [RV] at h; simp only [AV.val?, Option.some.injEq] at hu; rw [h, hu]
  | .agg l, v, u, h, hu => by
    obtain ⟨cs, rfl, h1⟩ := (by simpa only [RV] using h)
    simp only [AV.val?] at hu
    cases hv : vals? l with
    | none => simp [hv] at hu
    | some vs => simp [hv] at hu; subst hu; rw [← vals_of l _ _ h1 hv]
  | .tup l, v, u, h, hu => by
    obtain ⟨cs, rfl, h1⟩ := (by simpa only [RV] using h)
    simp only [AV.val?] at hu
    cases hv : vals? l with
    | none => simp [hv] at hu
    | some vs => simp [hv] at hu; subst hu; rw [← vals_of l _ _ h1 hv]
  | .ref .., _, _, _, hu => by simp [AV.val?] at hu
  | .sl .., _, _, _, hu => by simp [AV.val?] at hu
  | .ip .., _, _, _, hu => by simp [AV.val?] at hu
  | .vs .., _, _, _, hu => by simp [AV.val?] at hu
  | .mp .., _, _, _, hu => by simp [AV.val?] at hu
  | .fn .., _, _, _, hu => by simp [AV.val?] at hu
theorem vals_of {ρ : Ren} {G : Nat → Nat} {w : World} : ∀ (xs : List AV) (l us : List Value), RVs ρ G w xs l → vals? xs = some us → l = us
  | [], l, us, h, hu => by simp only [RVs] at h; simp only [vals?, Option.some.injEq] at hu; rw [h, hu]
  | x :: xs, l, us, h, hu => by
    obtain ⟨y, ys, rfl, h1, h2⟩ := (by simpa only [RVs] using h)
    simp only [vals?] at hu
    cases hx : x.val? with
    | none => simp [hx] at hu
    | some v =>
      cases hxs : vals? xs with
      | none => simp [hx, hxs] at hu
      | some vs => simp [hx, hxs] at hu; subst hu; rw [val_of x y v h1 hx, vals_of xs ys vs h2 hxs]
end
section
variable {P : Program} {ρ : Ren} {H H' : AHeap} {w : World} {v : AV}
theorem lookB_eq {f : Option AObj → Option AV} {x : AV} (h : lookB f x H = some (v, H')) : f ((watchV x).map H.get) = some v ∧ H' = H := by
  unfold lookB at h
  cases hf : f ((watchV x).map H.get) with
  | none => rw [hf] at h; cases h
  | some u => rw [hf] at h; simp only [Option.map_some, Option.some.injEq, Prod.mk.injEq] at h; exact ⟨by rw [h.1], h.2.symm⟩
theorem load_ok (R : Rel ρ H w) {t : TypeId} {x : AV} {cx : Value} (hx : RV ρ H.gen w x cx) (h : loadA P t x H = some (v, H')) : H' = H ∧ OkP P ρ H.gen w (Instr.loadAt t cx) v := by
  obtain ⟨h', hh⟩ := lookB_eq h
  clear h
  subst hh
  have h := h'
  clear h'
  refine ⟨rfl, ?_⟩
  unfold loadO at h
  cases x with
  | ref r g off =>
    simp only [watchV, Option.map_some] at h
    cases ho : H'.get r with
    | map k es => simp [ho] at h
    | blk g' ty cells =>
      simp only [ho] at h
      by_cases hg : g' = g
      · rw [if_pos hg] at h
        simp only [RV] at hx
        obtain ⟨a, rfl, _, h2⟩ := hx
        obtain ⟨b, sh, hr, rfl⟩ := h2 (by simp [AHeap.gen, ho, AObj.gen, hg])
        have hobj := R.obj r b sh hr
        simp only [RObj, ho] at hobj
        obtain ⟨cs, e, _, _, hc, _⟩ := hobj
        obtain ⟨cv, h3, h4⟩ := run_loadVar (P := P) hc h
        exact ⟨cv, by simp [Instr.loadAt, Instr.sureAddr, h3], h4⟩
      · rw [if_neg hg] at h; cases h
  | ip cells =>
    simp only at h
    simp only [RV] at hx
    obtain ⟨b, o, rfl, _, _, hc⟩ := hx
    obtain ⟨cv, h3, h4⟩ := run_loadVar (P := P) hc h
    exact ⟨cv, by simp [Instr.loadAt, Instr.sureAddr] at h3 ⊢; simp [h3], h4⟩
  | _ => simp at h
theorem array_toList_length {α : Type} (a : Array α) : a.toList.length = a.size := rfl
theorem store_ok (R : Rel ρ H w) {t : TypeId} {x y : AV} {cx cy : Value} (hx : RV ρ H.gen w x cx) (hy : RV ρ H.gen w y cy) (h : storeA P t x y H = some (v, H')) :
    v = undefA ∧ ∃ ρ' w', (Instr.storeAt t cx cy).run P w = .ok () w' ∧ Rel ρ' H' w' ∧ Ext ρ H w ρ' H' w' := by
  unfold storeA at h
  cases x with
  | ref r g off =>
    simp only at h
    cases ho : H.get r with
    | map k es => simp [ho] at h
    | blk g' ty cells =>
      simp only [ho] at h
      split at h
      · rename_i hc
        obtain ⟨rfl, _, hs, hcell, hle⟩ := hc
        simp only [Option.some.injEq, Prod.mk.injEq] at h
        obtain ⟨rfl, rfl⟩ := h
        simp only [RV] at hx
        obtain ⟨a, rfl, _, h2⟩ := hx
        obtain ⟨b, sh, hr, rfl⟩ := h2 (by simp [AHeap.gen, ho, AObj.gen])
        have hobj := R.obj r b sh hr
        simp only [RObj, ho] at hobj
        obtain ⟨cs, e, hb, hz, hcc, hX⟩ := hobj
        have hyc := RV_cells hy
        have hlen := RVs_length hyc
        rw [array_toList_length] at hlen
        have hrun := run_storeCells (P := P) (o := sh + off) cy.cells.toList w cs 0 hb (by rw [array_toList_length]; omega) (oneCells_of hcell hyc)
        have hgen : H.gen r = g' := by simp [AHeap.gen, ho, AObj.gen]
        have hput := put_blk (ty' := ty) (cells' := setAt cells off y.cells) (cs' := setMany cs (sh + off) cy.cells.toList) (g' := g') (sh' := sh) R hr hb (setMany_size _ _ _) (by omega) (fun _ => rfl)
          (by rw [setAt_length _ _ _ hle]; exact hz) (by
            intro i u hu
            rw [setAt_get _ _ _ hle] at hu
            rw [setMany_get _ _ _ _ (by rw [array_toList_length]; omega), array_toList_length]
            by_cases hi : off ≤ i ∧ i < off + y.cells.length
            · rw [if_pos hi] at hu
              rw [if_pos (by omega), show sh + i - (sh + off) = i - off from by omega]
              exact RVs_get hyc hu
            · rw [if_neg hi] at hu
              rw [if_neg (by omega)]
              exact RVc_array hb hcc hu) (by rw [setMany_size, setAt_length _ _ _ hle]; exact hX)
        refine ⟨rfl, _, _, ?_, hput.1, hput.2⟩
        simp only [Instr.storeAt, Instr.sureAddr, storeVar, Sem.run_bind, Sem.run_pure, Result.andThen_ok, run_sizeOf hs, hlen, ne_eq, not_true, if_false]
        simpa using hrun
      · cases h
  | _ => simp at h
theorem newVar_ok (R : Rel ρ H w) (t : TypeId) (ht : t < tagB) {cells : List AV} {cv : Value} (hc : RVs ρ H.gen w cells cv.cells.toList) :
    Ok P ρ H w (do pure (.pointer (some (← newVar t cv)))) (.ref H.next 0 0) (H.new (.blk 0 t cells)) := by
  have hn := new_blk (e := t) (ty := t) (cells := cells) (cs := cv.cells) R (by rw [← array_toList_length, RVs_length hc]; exact Nat.le_refl _) (fun i x hx => by
    obtain ⟨u, hu, h1⟩ := RVs_get hc hx
    exact ⟨u, by simpa using hu, h1⟩) (Xct.low ht (by have := RVs_length hc; rw [array_toList_length] at this; omega))
  refine ⟨.pointer (some ⟨w.heap.size, 0, none⟩), _, _, ?_, hn.1, ?_, hn.2⟩
  · simp [newVar, newRow]
  · simp only [RV]
    exact ⟨_, rfl, by omega, fun _ => ⟨w.heap.size, 0, by simp [updρ], by simp⟩⟩
theorem box_ok (R : Rel ρ H w) {t : TypeId} {x : AV} {cx : Value} (hx : RV ρ H.gen w x cx) (h : boxA t x H = some (v, H')) : Ok P ρ H w (Instr.box t cx) v H' := by
  unfold boxA at h
  split at h
  · rename_i hh
    simp only [Option.some.injEq, Prod.mk.injEq] at h
    obtain ⟨rfl, rfl⟩ := h
    exact newVar_ok R t hh.2 (RV_cells hx)
  · cases h
theorem alloc_ok (R : Rel ρ H w) {t : TypeId} (h : allocA P t H = some (v, H')) : Ok P ρ H w (Instr.alloc t true (.tuple #[])) v H' := by
  unfold allocA zeroL at h
  cases hz : zeroT P t with
  | none => simp [hz] at h
  | some z =>
    simp only [hz, Option.map_some] at h
    split at h
    · simp only [Option.some.injEq, Prod.mk.injEq] at h
      obtain ⟨rfl, rfl⟩ := h
      obtain ⟨cv, ρ', w', h1, h2, h3, h4⟩ := newVar_ok (P := P) R t (zeroT_lt hz) (cells := z.cells.toList.map .s) (cv := z) (RVs_scalars _)
      exact ⟨cv, ρ', w', by simpa [Instr.alloc, run_zeroValue hz] using h1, h2, h3, h4⟩
    · cases h
theorem run_fieldPlace {f : Field} {n : Nat} {a : Addr} (h : szT P f.type = some (n + 1)) : (fieldPlace a f).run P w = .ok (a.add f.offset) w := by
  simp [fieldPlace, run_sizeOf h]
theorem fieldAddr_ok {t : TypeId} {i : Nat} {x : AV} {cx : Value} (hx : RV ρ H.gen w x cx) (h : fieldAddrA P t x i = some v) : OkP P ρ H.gen w (Instr.fieldAt t cx i) v := by
  unfold fieldAddrA fieldT at h
  cases hu : P.underlying t with
  | none => simp [hu] at h
  | some d =>
    cases d with
    | struct fs =>
      simp only [hu] at h
      cases hf : fs[i]? with
      | none => simp [hf] at h
      | some f =>
        simp only [hf] at h
        cases hs : szT P f.type with
        | none => simp [hs] at h
        | some n =>
          cases n with
          | zero => simp [hs] at h
          | succ n =>
            simp only [hs] at h
            have hrun : ∀ a, (Instr.fieldAt t (.pointer (some a)) i).run P w = .ok (.pointer (some (a.add f.offset))) w := fun a => by
              simp [Instr.fieldAt, run_underlying hu, hf, Instr.sureAddr, run_fieldPlace hs]
            cases x with
            | ref r g off =>
              simp only [Option.some.injEq] at h; subst h
              simp only [RV] at hx
              obtain ⟨a, rfl, h1, h2⟩ := hx
              refine ⟨_, hrun a, ?_⟩
              simp only [RV]
              refine ⟨_, rfl, h1, fun hg => ?_⟩
              obtain ⟨b, sh, hr, rfl⟩ := h2 hg
              exact ⟨b, sh, hr, by rw [add_plain, Nat.add_assoc]⟩
            | ip cells =>
              simp only [Option.some.injEq] at h; subst h
              simp only [RV] at hx
              obtain ⟨b, o, rfl, h1, h2, h3⟩ := hx
              refine ⟨_, hrun _, ?_⟩
              simp only [RV]
              exact ⟨b, o + f.offset, by rw [add_plain], h1, h2, RVc_drop _ h3⟩
            | _ => simp at h
    | _ => simp [hu] at h
theorem indexAddr_ok (_R : Rel ρ H w) {t : TypeId} {x i : AV} {cx ci : Value} (hx : RV ρ H.gen w x cx) (hi : RV ρ H.gen w i ci) (h : indexAddrA P t x i H = some (v, H')) :
    H' = H ∧ OkP P ρ H.gen w (Instr.indexAt t cx ci) v := by
  obtain ⟨h', hh⟩ := lookB_eq h
  clear h
  subst hh
  have h := h'
  clear h'
  refine ⟨rfl, ?_⟩
  unfold indexAddrO at h
  split at h
  · rename_i e hu
    split at h
    · rename_i r g off esz len cap ex
      split at h <;> first | (cases h; done) | skip
      rename_i k n
      split at h <;> first | (cases h; done) | skip
      rename_i hc
      obtain ⟨hs, hg, h0, h1⟩ := hc
      simp only [Option.some.injEq] at h
      subst h
      simp only [RV] at hi hx
      subst hi
      obtain ⟨b, o, c, rfl, q1, q2, q3, q4, q5⟩ := hx
      obtain ⟨sh, ty, m, hr, ho, hsh, hle⟩ := q5 hg
      have ho' := ho (by omega)
      refine ⟨.pointer (some ⟨b, o + n.toNat * esz, none⟩), ?_, ?_⟩
      · simp [Instr.indexAt, asIntOf, run_underlying hu, run_sizeOf hs, add_plain, h0, h1]
      · simp only [RV]
        exact ⟨_, rfl, q4, fun _ => ⟨b, sh, hr, by rw [ho', Nat.add_assoc]⟩⟩
    · rename_i len esz cells
      split at h <;> first | (cases h; done) | skip
      rename_i k n
      split at h <;> first | (cases h; done) | skip
      rename_i hc
      obtain ⟨hs, h0, h1⟩ := hc
      simp only [Option.some.injEq] at h
      subst h
      simp only [RV] at hi hx
      subst hi
      obtain ⟨b, o, c, rfl, q1, q2, q3, q4, q5⟩ := hx
      refine ⟨.pointer (some ⟨b, o + n.toNat * esz, none⟩), ?_, ?_⟩
      · simp [Instr.indexAt, asIntOf, run_underlying hu, run_sizeOf hs, add_plain, h0, h1]
      · simp only [RV]
        exact ⟨b, _, rfl, q3, q4, RVc_drop _ q5⟩
    · cases h
  · rename_i len e hu
    split at h <;> first | (cases h; done) | skip
    rename_i m hs
    split at h
    · rename_i r g off
      split at h <;> first | (cases h; done) | skip
      rename_i k n
      split at h <;> first | (cases h; done) | skip
      rename_i hc
      obtain ⟨h0, h1⟩ := hc
      simp only [Option.some.injEq] at h
      subst h
      simp only [RV] at hi hx
      subst hi
      obtain ⟨a, rfl, q1, q2⟩ := hx
      refine ⟨.pointer (some (a.add (n.toNat * m))), ?_, ?_⟩
      · simp [Instr.indexAt, asIntOf, run_underlying hu, run_sizeOf hs, h0, h1, Instr.sureAddr]
      · simp only [RV]
        refine ⟨_, rfl, q1, fun hg => ?_⟩
        obtain ⟨b, sh, hr, rfl⟩ := q2 hg
        exact ⟨b, sh, hr, by rw [add_plain, Nat.add_assoc]⟩
    · rename_i cells
      split at h <;> first | (cases h; done) | skip
      rename_i k n
      split at h <;> first | (cases h; done) | skip
      rename_i hc
      obtain ⟨h0, h1⟩ := hc
      simp only [Option.some.injEq] at h
      subst h
      simp only [RV] at hi hx
      subst hi
      obtain ⟨b, o, rfl, q1, q2, q3⟩ := hx
      refine ⟨.pointer (some ⟨b, o + n.toNat * m, none⟩), ?_, ?_⟩
      · simp [Instr.indexAt, asIntOf, run_underlying hu, run_sizeOf hs, h0, h1, Instr.sureAddr, add_plain]
      · simp only [RV]
        exact ⟨b, _, rfl, q1, q2, RVc_drop _ q3⟩
    · cases h
  · cases h
end

end Go.Proofs.YtjmldnpdfnklcaaDoor

namespace Go.Proofs.YtjmldnpdfnklcaaDoor

section
variable {P : Program} {ρ : Ren} {G : Nat → Nat} {w : World} {v : AV}
theorem run_part {t : TypeId} {cells : List AV} {cs : Array Value} {off : Nat} (hc : RVs ρ G w cells cs.toList) (h : partL P t cells off = some v) : OkP P ρ G w (part t cs off) v := by
  unfold partL at h
  cases ha : aggT P t with
  | none => simp [ha] at h
  | some k =>
    cases hs : szT P t with
    | none => simp [ha, hs] at h
    | some n =>
      cases k with
      | true =>
        simp [ha, hs] at h
        obtain ⟨hle, rfl⟩ := h
        refine ⟨.agg (cs.extract off (off + n)), by simp [part, run_isAgg ha, run_sizeOf hs], ?_⟩
        simp only [RV]
        refine ⟨_, rfl, ?_⟩
        have := RVs_take n (RVs_drop off hc)
        rw [Array.toList_extract]
        simpa [List.extract] using this
      | false =>
        simp [ha, hs] at h
        obtain ⟨cv, hcv, h1⟩ := RVs_get hc h
        refine ⟨cv, ?_, h1⟩
        have : cs[off]? = some cv := by simpa using hcv
        simp [part, run_isAgg ha, this]
theorem field_ok {t : TypeId} {i : Nat} {x : AV} {cx : Value} (hx : RV ρ G w x cx) (h : fieldA P t x i = some v) : OkP P ρ G w (Instr.field t cx i) v := by
  unfold fieldA fieldT at h
  cases hu : P.underlying t with
  | none => simp [hu] at h
  | some d =>
    cases d with
    | struct fs =>
      simp only [hu] at h
      cases hf : fs[i]? with
      | none => simp [hf] at h
      | some f =>
        simp only [hf] at h
        split at h
        · rename_i g cells hg
          cases hg
          simp only [RV] at hx
          obtain ⟨cs, rfl, h1⟩ := hx
          obtain ⟨cv, h2, h3⟩ := run_part (P := P) h1 h
          exact ⟨cv, by simp [Instr.field, run_underlying hu, hf, asAgg, h2], h3⟩
        · rename_i g cs hg
          cases hg
          simp only [RV] at hx
          subst hx
          obtain ⟨cv, h2, h3⟩ := run_part (P := P) (RVs_scalars (ρ := ρ) (G := G) (w := w) cs.toList) h
          exact ⟨cv, by simp [Instr.field, run_underlying hu, hf, asAgg, h2], h3⟩
        · cases h
    | _ => simp [hu] at h
theorem index_ok {t : TypeId} {x i : AV} {cx ci : Value} (hx : RV ρ G w x cx) (hi : RV ρ G w i ci) (h : indexA P t x i = some v) : OkP P ρ G w (Instr.index t cx ci) v := by
  unfold indexA at h
  split at h
  · rename_i s k n hu
    simp only [RV] at hx hi
    subst hx hi
    split at h
    · rename_i b hb
      simp only [Option.some.injEq] at h
      subst h
      exact ⟨.int .u8 b.toNat, by simp [Instr.index, asIntOf, run_underlying hu, hb], by simp only [RV]⟩
    · cases h
  · rename_i len e cells k n hu
    simp only [RV] at hx hi
    subst hi
    obtain ⟨cs, rfl, h1⟩ := hx
    cases hs : szT P e with
    | none => simp [hs] at h
    | some m =>
      simp only [hs] at h
      split at h
      · rename_i hc
        obtain ⟨cv, h2, h3⟩ := run_part (P := P) h1 h
        exact ⟨cv, by simp [Instr.index, asIntOf, run_underlying hu, run_sizeOf hs, hc, h2], h3⟩
      · cases h
  · rename_i len e cs k n hu
    simp only [RV] at hx hi
    subst hx hi
    cases hs : szT P e with
    | none => simp [hs] at h
    | some m =>
      simp only [hs] at h
      split at h
      · rename_i hc
        obtain ⟨cv, h2, h3⟩ := run_part (P := P) (RVs_scalars (ρ := ρ) (G := G) (w := w) cs.toList) h
        exact ⟨cv, by simp [Instr.index, asIntOf, run_underlying hu, run_sizeOf hs, hc, h2], h3⟩
      · cases h
  · cases h
theorem extract_ok {x : AV} {i : Nat} {cx : Value} (hx : RV ρ G w x cx) (h : extractA x i = some v) : OkP P ρ G w (Instr.extract cx i) v := by
  unfold extractA at h
  split at h
  · rename_i l
    simp only [RV] at hx
    obtain ⟨cs, rfl, h1⟩ := hx
    obtain ⟨cv, hcv, h2⟩ := RVs_get h1 h
    have : cs[i]? = some cv := by simpa using hcv
    exact ⟨cv, by simp [Instr.extract, this], h2⟩
  · rename_i vs
    simp only [RV] at hx
    subst hx
    cases hv : vs[i]? with
    | none => simp [hv] at h
    | some u => simp [hv] at h; subst h; exact ⟨u, by simp [Instr.extract, hv], by simp only [RV]⟩
  · cases h
theorem pick_ok {c a b : AV} {cc ca cb : Value} (hc : RV ρ G w c cc) (ha : RV ρ G w a ca) (hb : RV ρ G w b cb) (h : pickA c a b = some v) :
    OkP P ρ G w (do pure (if ← asBool cc then ca else cb)) v := by
  unfold pickA at h
  split at h
  · simp only [RV] at hc; subst hc; simp only [Option.some.injEq] at h; subst h; exact ⟨ca, by simp [asBool], ha⟩
  · simp only [RV] at hc; subst hc; simp only [Option.some.injEq] at h; subst h; exact ⟨cb, by simp [asBool], hb⟩
  · cases h
theorem un_ok {op : UnOp} {x : AV} {cx : Value} (hx : RV ρ G w x cx) (h : unA P op x = some v) : OkP P ρ G w (Op.unary op cx) v := by
  unfold unA at h
  cases hv : x.val? with
  | none => simp [hv] at h
  | some a =>
    simp only [hv] at h
    rw [val_of x cx a hx hv]
    cases hp : pureRun P (Op.unary op a) with
    | none => simp [hp] at h
    | some u => simp [hp] at h; subst h; exact ⟨u, pureRun_run hp w, by simp only [RV]⟩
theorem nilEq_run {t : TypeId} {cx cy : Value} {b : Bool} (h : ∀ d, (Op.equalIn (d + 1) t cx cy).run P w = .ok b w) : (Op.equal t cx cy).run P w = .ok b w := h 9999
theorem nilEq_ok {t : TypeId} {x y : AV} {cx cy : Value} {b : Bool} (hx : RV ρ G w x cx) (hy : RV ρ G w y cy) (h : nilEq P t x y = some b) :
    (Op.equal t cx cy).run P w = .ok b w ∧ (∀ op u z, eqGuard op t u z cx cy = pure ()) ∧ (binOp .eql t cx cy = (do pure (.bool (← Op.equal t cx cy)))) ∧ (binOp .neq t cx cy = (do pure (.bool (!(← Op.equal t cx cy))))) := by
  unfold nilEq at h
  cases hu : P.underlying t with
  | none => simp [hu] at h
  | some d =>
    cases d with
    | slice e =>
      simp only [hu] at h
      split at h <;> first
        | (cases h; done)
        | (simp only [Option.some.injEq] at h; subst h
           simp only [RV] at hx hy
           first
             | (obtain ⟨_, _, _, rfl, _⟩ := hx; subst hy; exact ⟨nilEq_run fun d => by simp [Op.equalIn, run_underlying hu], fun op _ _ => by cases op <;> rfl, rfl, rfl⟩)
             | (obtain ⟨_, _, _, rfl, _⟩ := hy; subst hx; exact ⟨nilEq_run fun d => by simp [Op.equalIn, run_underlying hu], fun op _ _ => by cases op <;> rfl, rfl, rfl⟩))
    | pointer e =>
      simp only [hu] at h
      split at h <;> first
        | (cases h; done)
        | (simp only [Option.some.injEq] at h; subst h
           simp only [RV] at hx hy
           first
             | (obtain ⟨_, rfl, _⟩ := hx; subst hy; exact ⟨nilEq_run fun d => by simp [Op.equalIn, run_underlying hu], fun op _ _ => by cases op <;> rfl, rfl, rfl⟩)
             | (obtain ⟨_, rfl, _⟩ := hy; subst hx; exact ⟨nilEq_run fun d => by simp [Op.equalIn, run_underlying hu], fun op _ _ => by cases op <;> rfl, rfl, rfl⟩)
             | (obtain ⟨_, _, rfl, _⟩ := hx; subst hy; exact ⟨nilEq_run fun d => by simp [Op.equalIn, run_underlying hu], fun op _ _ => by cases op <;> rfl, rfl, rfl⟩)
             | (obtain ⟨_, _, rfl, _⟩ := hy; subst hx; exact ⟨nilEq_run fun d => by simp [Op.equalIn, run_underlying hu], fun op _ _ => by cases op <;> rfl, rfl, rfl⟩))
    | map k e =>
      simp only [hu] at h
      split at h <;> first
        | (cases h; done)
        | (simp only [Option.some.injEq] at h; subst h
           simp only [RV] at hx hy
           first
             | (obtain ⟨_, rfl, _⟩ := hx; subst hy; exact ⟨nilEq_run fun d => by simp [Op.equalIn, run_underlying hu], fun op _ _ => by cases op <;> rfl, rfl, rfl⟩)
             | (obtain ⟨_, rfl, _⟩ := hy; subst hx; exact ⟨nilEq_run fun d => by simp [Op.equalIn, run_underlying hu], fun op _ _ => by cases op <;> rfl, rfl, rfl⟩))
    | func ps rs vd =>
      simp only [hu] at h
      split at h <;> first
        | (cases h; done)
        | (simp only [Option.some.injEq] at h; subst h
           simp only [RV] at hx hy
           first
             | (obtain ⟨_, _, rfl, _⟩ := hx; subst hy; exact ⟨nilEq_run fun d => by simp [Op.equalIn, run_underlying hu], fun op _ _ => by cases op <;> rfl, rfl, rfl⟩)
             | (obtain ⟨_, _, rfl, _⟩ := hy; subst hx; exact ⟨nilEq_run fun d => by simp [Op.equalIn, run_underlying hu], fun op _ _ => by cases op <;> rfl, rfl, rfl⟩))
    | _ => simp [hu] at h
/-- A guard of '==' that passes at operands that are no constants passes at all. -/
theorem eqGuard_any {op : BinOp} {t : TypeId} {a b : Value} {x y : Operand} (h : (eqGuard op t (.tmp 0) (.tmp 0) a b).run P w = .ok () w) : (eqGuard op t x y a b).run P w = .ok () w := by
  cases op <;> first
    | rfl
    | (cases a <;> first
        | rfl
        | (cases b <;> first
            | rfl
            | exact h
            | (cases x <;> cases y <;> first | rfl | exact h)))
theorem isNilC_eq {z : Operand} (h : isNilC z = true) : z = .const .nilIface := by
  unfold isNilC at h
  split at h
  · rfl
  · cases h
theorem eqGuard_nil {op : BinOp} {t : TypeId} {a : Value} {x : Operand} : eqGuard op t x (.const .nilIface) a .nilIface = eqGuard op t (.tmp 0) (.const .nilIface) a .nilIface := by
  cases op <;> first
    | rfl
    | (cases a <;> first
        | rfl
        | (cases x <;> rfl))
theorem bin_ok {op : BinOp} {t : TypeId} {x y : AV} {cx cy : Value} {u z : Operand} (hx : RV ρ G w x cx) (hy : RV ρ G w y cy) (h : binA P op t x y = some v) :
    OkP P ρ G w (do eqGuard op t u z cx cy; binOp op t cx cy) v := by
  unfold binA at h
  split at h
  · rename_i a b ha hb
    rw [val_of x cx a hx ha, val_of y cy b hy hb]
    cases hp : pureRun P (do eqGuard op t (.tmp 0) (.tmp 0) a b; binOp op t a b) with
    | none => simp [hp] at h
    | some r =>
      simp [hp] at h; subst h
      have hr := pureRun_run hp w
      rw [Sem.run_bind] at hr
      cases hg : (eqGuard op t (.tmp 0) (.tmp 0) a b).run P w with
      | halt e w' => rw [hg] at hr; cases hr
      | ok c w' =>
        have hgp : ∀ w, (eqGuard op t (.tmp 0) (.tmp 0) a b).run P w = .ok c w := by
          have hb' : ∀ {α β : Type} (s : Sem α) (f : α → Sem β) (r : β), pureRun P (s.bind f) = some r → ∃ a, pureRun P s = some a := by
            intro α β s f r
            induction s with
            | pure a => intro _; exact ⟨a, rfl⟩
            | program k ih => intro h; exact ih P h
            | _ => intro h; simp [Sem.bind, pureRun] at h
          obtain ⟨c', hc'⟩ := hb' _ _ _ hp
          intro w0
          have h1 := pureRun_run hc' w0
          have h2 := pureRun_run hc' w
          rw [hg] at h2
          cases h2
          exact h1
        have hg' := eqGuard_any (x := u) (y := z) (by simpa using hgp w)
        refine ⟨r, ?_, by simp only [RV]⟩
        rw [Sem.run_bind, hg']
        rw [hgp w] at hr
        exact hr
  · split at h
    · cases hn : nilEq P t x y with
      | none => simp [hn] at h
      | some b =>
        simp [hn] at h; subst h
        obtain ⟨h1, h2, h3, h4⟩ := nilEq_ok hx hy hn
        exact ⟨.bool b, by rw [h2, h3]; simp [h1], by simp only [RV]⟩
    · cases hn : nilEq P t x y with
      | none => simp [hn] at h
      | some b =>
        simp [hn] at h; subst h
        obtain ⟨h1, h2, h3, h4⟩ := nilEq_ok hx hy hn
        exact ⟨.bool !b, by rw [h2, h4]; simp [h1], by simp only [RV]⟩
    · cases h
theorem binE_ok {op : BinOp} {t : TypeId} {x y : AV} {cx cy : Value} {u z : Operand} (hx : RV ρ G w x cx) (hy : RV ρ G w y cy) (hz : isNilC z = true → cy = .nilIface) (h : binE P op t z x y = some v) :
    OkP P ρ G w (do eqGuard op t u z cx cy; binOp op t cx cy) v := by
  unfold binE at h
  split at h
  · rename_i hn
    have e := hz hn
    have ez := isNilC_eq hn
    subst e ez
    unfold binN at h
    split at h
    · rename_i a ha
      rw [val_of x cx a hx ha, eqGuard_nil]
      cases hp : pureRun P (do eqGuard op t (.tmp 0) (.const .nilIface) a .nilIface; binOp op t a .nilIface) with
      | none => simp [hp] at h
      | some r =>
        simp [hp] at h; subst h
        exact ⟨r, pureRun_run hp w, by simp only [RV]⟩
    · cases h
  · exact bin_ok hx hy h
theorem bound_ok {x : Option AV} {cx : Option Value} {d n : Nat} (hx : match x, cx with | some a, some c => RV ρ G w a c | none, none => True | _, _ => False) (h : boundA x d = some n) :
    (x = none ∧ cx = none ∧ n = d) ∨ ∃ k i, x = some (.s (.int k i)) ∧ cx = some (.int k i) ∧ 0 ≤ i ∧ n = i.toNat := by
  unfold boundA at h
  split at h
  · cases cx with
    | none => cases h; exact .inl ⟨rfl, rfl, rfl⟩
    | some c => exact hx.elim
  · rename_i k i
    split at h
    · cases cx with
      | none => exact hx.elim
      | some c =>
        simp only [RV] at hx
        subst hx
        cases h
        exact .inr ⟨k, i, rfl, rfl, ‹_›, rfl⟩
    · cases h
  · cases h
theorem run_bound {k : IntKind} {i : Int} {y : Nat} {code : BoundsCode} (h0 : 0 ≤ i) (h1 : i ≤ y) : (Instr.sliceBound (.int k i) y code).run P w = .ok i.toNat w :=
  run_sliceBound w k i y code h0 h1
end

end Go.Proofs.YtjmldnpdfnklcaaDoor

namespace Go.Proofs.YtjmldnpdfnklcaaDoor

section
variable {P : Program} {ρ : Ren} {H H' : AHeap} {w : World} {v : AV}
def optRV (ρ : Ren) (G : Nat → Nat) (w : World) (x : Option AV) (cx : Option Value) : Prop := match x, cx with | some a, some c => RV ρ G w a c | none, none => True | _, _ => False
theorem run_sliceBounds {s : Bool} {len c l h m : Nat} {clo chi cmx : Option Value}
    (hm : (cmx = none ∧ m = c) ∨ ∃ k i, cmx = some (.int k i) ∧ 0 ≤ i ∧ m = i.toNat ∧ m ≤ c)
    (hh : (chi = none ∧ cmx = none ∧ h = len) ∨ ∃ k i, chi = some (.int k i) ∧ 0 ≤ i ∧ h = i.toNat ∧ h ≤ m)
    (hl : (clo = none ∧ l = 0) ∨ ∃ k i, clo = some (.int k i) ∧ 0 ≤ i ∧ l = i.toNat ∧ l ≤ h) : (Instr.sliceBounds s len c clo chi cmx).run P w = .ok (l, h, m) w := by
  rcases hm with ⟨rfl, rfl⟩ | ⟨km, im, rfl, hm0, rfl, hm1⟩
  · rcases hh with ⟨rfl, _, rfl⟩ | ⟨kh, ih, rfl, hh0, rfl, hh1⟩
    · rcases hl with ⟨rfl, rfl⟩ | ⟨kl, il, rfl, hl0, rfl, hl1⟩
      · simp [Instr.sliceBounds]
      · have a1 : il ≤ (h : Int) := by omega
        simp [Instr.sliceBounds, run_bound hl0 a1]
    · have a2 : ih ≤ (m : Int) := by omega
      rcases hl with ⟨rfl, rfl⟩ | ⟨kl, il, rfl, hl0, rfl, hl1⟩
      · simp [Instr.sliceBounds, run_bound hh0 a2]
      · have a1 : il ≤ (ih.toNat : Int) := by omega
        simp only [Instr.sliceBounds, Sem.run_bind, Sem.run_pure, Result.andThen_ok, run_bound hh0 a2]
        simp [run_bound hl0 a1]
  · rcases hh with ⟨_, h2, _⟩ | ⟨kh, ih, rfl, hh0, rfl, hh1⟩
    · cases h2
    · rcases hl with ⟨rfl, rfl⟩ | ⟨kl, il, rfl, hl0, rfl, hl1⟩
      · have a3 : im ≤ (c : Int) := by omega
        have a2 : ih ≤ (im.toNat : Int) := by omega
        simp only [Instr.sliceBounds, Sem.run_bind, Sem.run_pure, Result.andThen_ok, run_bound hm0 a3, run_bound hh0 a2]
      · have a3 : im ≤ (c : Int) := by omega
        have a2 : ih ≤ (im.toNat : Int) := by omega
        have a1 : il ≤ (ih.toNat : Int) := by omega
        simp only [Instr.sliceBounds, Sem.run_bind, Sem.run_pure, Result.andThen_ok, run_bound hm0 a3, run_bound hh0 a2, run_bound hl0 a1]
theorem run_sliceAt_slice' {t e : TypeId} {len c l h m n : Nat} {a : Option Addr} {clo chi cmx : Option Value} (hu : P.underlying t = some (.slice e)) (hs : szT P e = some n)
    (hb : (Instr.sliceBounds true len c clo chi cmx).run P w = .ok (l, h, m) w) :
    (Instr.sliceAt t (.slice a len c) clo chi cmx).run P w = .ok (.slice (if m = l then a else a.map (·.add (l * n))) (h - l) (m - l)) w := by
  simp only [Instr.sliceAt, Sem.run_bind, run_underlying hu, Result.andThen_ok, Instr.slice, hb, run_sizeOf hs, Sem.run_pure]
theorem slice_ok {t : TypeId} {x : AV} {lo hi mx : Option AV} {cx : Value} {clo chi cmx : Option Value} (hx : RV ρ H.gen w x cx) (hlo : optRV ρ H.gen w lo clo) (hhi : optRV ρ H.gen w hi chi) (hmx : optRV ρ H.gen w mx cmx)
    (h : sliceA P t x lo hi mx = some v) : OkP P ρ H.gen w (Instr.sliceAt t cx clo chi cmx) v := by
  unfold sliceA at h
  cases hu : P.underlying t with
  | none => simp [hu] at h
  | some d =>
    cases d with
    | slice e =>
      simp only [hu] at h
      split at h
      · rename_i n hs
        split at h <;> first | (cases h; done) | skip
        rename_i h1 h2 h3
        split at h <;> first | (cases h; done) | skip
        rename_i hcond
        simp only [Option.some.injEq] at h; subst h
        simp only [RV] at hx; subst hx
        have b1 := bound_ok (x := lo) hlo h1
        have b2 := bound_ok (x := hi) hhi h2
        have b3 := bound_ok (x := mx) hmx h3
        refine ⟨.slice none 0 0, ?_, by simp only [RV]⟩
        rw [run_sliceAt_slice' hu hs (run_sliceBounds (l := 0) (h := 0) (m := 0) (by
              rcases b3 with ⟨_, q, _⟩ | ⟨k, i, _, q, q0, q1⟩
              · exact .inl ⟨q, rfl⟩
              · exact .inr ⟨k, i, q, q0, q1, by omega⟩) (by
              rcases b2 with ⟨p, q, _⟩ | ⟨k, i, _, q, q0, q1⟩
              · refine .inl ⟨q, ?_, rfl⟩
                have := hcond p
                rcases b3 with ⟨_, q', _⟩ | ⟨k, i, p', _⟩
                · exact q'
                · rw [this] at p'; cases p'
              · exact .inr ⟨k, i, q, q0, q1, by omega⟩) (by
              rcases b1 with ⟨_, q, _⟩ | ⟨k, i, _, q, q0, q1⟩
              · exact .inl ⟨q, rfl⟩
              · exact .inr ⟨k, i, q, q0, q1, by omega⟩))]
        simp
      · rename_i r g off esz len cap ex m hs
        split at h <;> first | (cases h; done) | skip
        rename_i l hh k h1 h2 h3
        split at h <;> first | (cases h; done) | skip
        rename_i hcond
        obtain ⟨rfl, c1, c2, c3, c4⟩ := hcond
        simp only [Option.some.injEq] at h; subst h
        simp only [RV] at hx
        obtain ⟨b, o, c, rfl, q1, q2, q3, q4, q5⟩ := hx
        have b1 := bound_ok (x := lo) hlo h1
        have b2 := bound_ok (x := hi) hhi h2
        have b3 := bound_ok (x := mx) hmx h3
        -- the capacity then
        obtain ⟨m, hm, hkm, hmc, hex⟩ : ∃ m, ((cmx = none ∧ m = c) ∨ ∃ k i, cmx = some (.int k i) ∧ 0 ≤ i ∧ m = i.toNat ∧ m ≤ c) ∧ k ≤ m ∧ m ≤ c ∧ ((ex || !isNone mx) = true → m = k) := by
          rcases b3 with ⟨p, q, r⟩ | ⟨k', i, p, q, q0, r⟩
          · refine ⟨c, .inl ⟨q, rfl⟩, by omega, Nat.le_refl _, fun hx => ?_⟩
            subst p
            simp [isNone] at hx
            rw [q3 hx, r]
          · exact ⟨k, .inr ⟨k', i, q, q0, r, by omega⟩, Nat.le_refl _, by omega, fun _ => rfl⟩
        have hb := run_sliceBounds (P := P) (w := w) (s := true) (len := len) (c := c) (l := l) (h := hh) (m := m) hm (by
              rcases b2 with ⟨p, q, r⟩ | ⟨k', i, _, q, q0, r⟩
              · refine .inl ⟨q, ?_, r⟩
                have := c4 p
                rcases b3 with ⟨_, q', _⟩ | ⟨_, _, p', _⟩
                · exact q'
                · rw [this] at p'; cases p'
              · exact .inr ⟨k', i, q, q0, r, by omega⟩) (by
              rcases b1 with ⟨_, q, r⟩ | ⟨k', i, _, q, q0, r⟩
              · exact .inl ⟨q, r⟩
              · exact .inr ⟨k', i, q, q0, r, by omega⟩)
        refine ⟨_, run_sliceAt_slice' hu hs hb, ?_⟩
        simp only [RV]
        by_cases hml : m = l
        · refine ⟨b, o, m - l, by simp [hml], by omega, by omega, fun hx => by rw [hex hx], q4, fun hg => ?_⟩
          obtain ⟨sh, ty, n, p1, p2, p3, p4⟩ := q5 hg
          refine ⟨sh, ty, n, p1, fun hc => by omega, p3, ?_⟩
          have : (m - l) * esz ≤ c * esz := Nat.mul_le_mul_right _ (by omega)
          omega
        · refine ⟨b, o + l * esz, m - l, by simp [hml, add_plain], by omega, by omega, fun hx => by rw [hex hx], q4, fun hg => ?_⟩
          obtain ⟨sh, ty, n, p1, p2, p3, p4⟩ := q5 hg
          refine ⟨sh, ty, n, p1, fun _ => by rw [p2 (by omega)]; omega, p3, ?_⟩
          have : l * esz + (m - l) * esz ≤ c * esz := by rw [← Nat.add_mul]; exact Nat.mul_le_mul_right _ (by omega)
          omega
      · rename_i n esz cells m hs
        split at h <;> first | (cases h; done) | skip
        rename_i l hh h1 h2
        split at h <;> first | (cases h; done) | skip
        rename_i hcond
        obtain ⟨rfl, c1, c2⟩ := hcond
        simp only [Option.some.injEq] at h; subst h
        simp only [RV] at hx
        obtain ⟨b, o, c, rfl, q1, q2, q3, q4, q5⟩ := hx
        have b1 := bound_ok (x := lo) hlo h1
        have b2 := bound_ok (x := hi) hhi h2
        have hmn : cmx = none := by
          cases cmx with
          | none => rfl
          | some c => exact hmx.elim
        have hb := run_sliceBounds (P := P) (w := w) (s := true) (len := n) (c := c) (l := l) (h := hh) (m := c) (.inl ⟨hmn, rfl⟩) (by
              rcases b2 with ⟨p, q, r⟩ | ⟨k', i, _, q, q0, r⟩
              · exact .inl ⟨q, hmn, r⟩
              · exact .inr ⟨k', i, q, q0, r, by omega⟩) (by
              rcases b1 with ⟨_, q, r⟩ | ⟨k', i, _, q, q0, r⟩
              · exact .inl ⟨q, r⟩
              · exact .inr ⟨k', i, q, q0, r, by omega⟩)
        refine ⟨_, run_sliceAt_slice' hu hs hb, ?_⟩
        simp only [RV]
        have hlen : (List.take ((hh - l) * esz) (List.drop (l * esz) cells)).length = (hh - l) * esz := by
          simp only [List.length_take, List.length_drop, q2]
          have : (hh - l) * esz + l * esz ≤ n * esz := by rw [← Nat.add_mul]; exact Nat.mul_le_mul_right _ (by omega)
          omega
        by_cases hml : c = l
        · have : hh - l = 0 := by omega
          refine ⟨b, o, c - l, by simp [hml], by omega, hlen, q3, q4, ?_⟩
          rw [this]; simp [RVc]
        · exact ⟨b, o + l * esz, c - l, by simp [hml, add_plain], by omega, hlen, q3, q4, RVc_take _ (RVc_drop _ q5)⟩
      · cases h
    | string =>
      simp only [hu] at h
      split at h
      · rename_i s l h1
        split at h <;> first | (cases h; done) | skip
        rename_i hh h2
        split at h <;> first | (cases h; done) | skip
        rename_i hcond
        simp only [Option.some.injEq] at h; subst h
        simp only [RV] at hx; subst hx
        have b1 := bound_ok (x := lo) hlo h1
        have b2 := bound_ok (x := hi) hhi h2
        have hmn : cmx = none := by
          cases cmx with
          | none => rfl
          | some c => exact hmx.elim
        subst hmn
        have hb := run_sliceBounds (P := P) (w := w) (s := false) (len := s.size) (c := s.size) (l := l) (h := hh) (m := s.size) (.inl ⟨rfl, rfl⟩) (by
              rcases b2 with ⟨p, q, r⟩ | ⟨k', i, _, q, q0, r⟩
              · exact .inl ⟨q, rfl, r⟩
              · exact .inr ⟨k', i, q, q0, r, by omega⟩) (by
              rcases b1 with ⟨_, q, r⟩ | ⟨k', i, _, q, q0, r⟩
              · exact .inl ⟨q, r⟩
              · exact .inr ⟨k', i, q, q0, r, by omega⟩)
        refine ⟨.string (s.extract l hh), ?_, by simp only [RV]⟩
        simp only [Instr.sliceAt, Sem.run_bind, run_underlying hu, Result.andThen_ok, Instr.slice, Option.isSome_none, Bool.false_eq_true, if_false, hb, Sem.run_pure]
      · cases h
    | _ => simp [hu] at h
end

end Go.Proofs.YtjmldnpdfnklcaaDoor

namespace Go.Proofs.YtjmldnpdfnklcaaDoor

theorem foldl_sets (off : Nat) : ∀ (l : List Value) (k : Nat) (cs : Array Value), (l.zipIdx k).foldl (fun cs (p : Value × Nat) => cs.setIfInBounds (off + p.2) p.1) cs = setMany cs (off + k) l
  | [], _, _ => rfl
  | v :: l, k, cs => by
    simp only [List.zipIdx_cons, List.foldl_cons, setMany]
    exact foldl_sets off l (k + 1) _
section
variable {P : Program} {ρ : Ren} {G : Nat → Nat} {H H' : AHeap} {w : World} {v : AV}
theorem RVs_setAt {cells xs : List AV} {cs vs : List Value} {off : Nat} (hc : RVs ρ G w cells cs) (hx : RVs ρ G w xs vs) (hle : off + xs.length ≤ cells.length) : RVs ρ G w (setAt cells off xs) (setMany cs.toArray off vs).toList := by
  have h1 := RVs_length hc
  have h2 := RVs_length hx
  refine RVs_of_get (by rw [setAt_length _ _ _ hle, array_toList_length, setMany_size]; simp [h1]) fun i x hi => ?_
  rw [setAt_get _ _ _ hle] at hi
  have hset := setMany_get vs cs.toArray off i (by simp; omega)
  rw [h2] at hset
  by_cases hlt : off ≤ i ∧ i < off + xs.length
  · rw [if_pos hlt] at hi hset
    obtain ⟨u, hu, h3⟩ := RVs_get hx hi
    exact ⟨u, by rw [Array.getElem?_toList, hset, hu], h3⟩
  · rw [if_neg hlt] at hi hset
    obtain ⟨u, hu, h3⟩ := RVs_get hc hi
    exact ⟨u, by rw [Array.getElem?_toList, hset]; simpa using hu, h3⟩
theorem fill_ok {place : Nat → Option (Nat × Nat)} : ∀ (parts : List (Nat × AV)) (cparts : List (Nat × Value)) (cells : List AV) (cs : Array Value) (cells' : List AV),
    parts.map (·.1) = cparts.map (·.1) → RVs ρ G w (parts.map (·.2)) (cparts.map (·.2)) → RVs ρ G w cells cs.toList → fillA place cells parts = some cells' →
    ∃ cs', Instr.fill place cs cparts = some cs' ∧ RVs ρ G w cells' cs'.toList
  | [], [], cells, cs, cells', _, _, hc, h => by
    simp only [fillA, Option.some.injEq] at h; subst h
    exact ⟨cs, rfl, hc⟩
  | [], _ :: _, _, _, _, hi, _, _, _ => by simp at hi
  | _ :: _, [], _, _, _, hi, _, _, _ => by simp at hi
  | (i, x) :: parts, (j, y) :: cparts, cells, cs, cells', hi, hp, hc, h => by
    simp only [List.map_cons, List.cons.injEq] at hi
    obtain ⟨rfl, hi⟩ := hi
    simp only [List.map_cons, RVs] at hp
    obtain ⟨_, _, e, h1, h2⟩ := hp
    cases e
    simp only [fillA] at h
    cases hpl : place i with
    | none => simp [hpl] at h
    | some os =>
      obtain ⟨off, size⟩ := os
      simp only [hpl] at h
      split at h
      · rename_i hcond
        obtain ⟨hs, hle⟩ := hcond
        have hcells := RV_cells h1
        have hlen := RVs_length hcells
        rw [array_toList_length] at hlen
        have hclen := RVs_length hc
        rw [array_toList_length] at hclen
        have hset := RVs_setAt hc hcells hle
        obtain ⟨cs', h3, h4⟩ := fill_ok parts cparts _ _ cells' hi h2 hset h
        refine ⟨cs', ?_, h4⟩
        simp only [Instr.fill, hpl]
        rw [if_neg (by simp; omega)]
        rw [← h3]
        congr 1
        rw [← Array.foldl_toList, Array.toList_zipIdx]
        exact foldl_sets off y.cells.toList 0 _
      · cases h
theorem run_fields {fs : Array Field} (h : fs.all (fun f => (szT P f.type).isSome) = true) :
    (fs.mapM fun f => do pure (f.offset, ← sizeOf f.type) : Sem (Array (Nat × Nat))).run P w = .ok (fs.map fun f => (f.offset, (szT P f.type).getD 0)) w := by
  rw [Array.mapM_eq_mapM_toList]
  have key : ∀ l : List Field, (∀ f ∈ l, (szT P f.type).isSome = true) → (l.mapM fun f => do pure (f.offset, ← sizeOf f.type) : Sem (List (Nat × Nat))).run P w = .ok (l.map fun f => (f.offset, (szT P f.type).getD 0)) w := by
    intro l
    induction l with
    | nil => intro _; simp
    | cons f l ih =>
      intro hl
      have h0 := hl f (by simp)
      cases hs : szT P f.type with
      | none => simp [hs] at h0
      | some n =>
        rw [List.mapM_cons]
        simp only [Sem.run_bind, run_sizeOf hs, Sem.run_pure, Result.andThen_ok, ih (fun g hg => hl g (by simp [hg])), List.map_cons, hs, Option.getD_some]
  rw [Sem.run_map, key fs.toList (fun f hf => by
    have := Array.all_eq_true'.1 h f (by simpa using hf)
    exact this)]
  simp only [Result.andThen_ok]
  congr 1
  exact (Array.toList_inj.1 (by simp))
theorem build_ok {t : TypeId} {parts : List (Nat × AV)} {cparts : Array (Nat × Value)} (hi : parts.map (·.1) = cparts.toList.map (·.1)) (hp : RVs ρ G w (parts.map (·.2)) (cparts.toList.map (·.2)))
    (h : buildA P t parts = some v) : OkP P ρ G w (Instr.build t cparts) v := by
  unfold buildA zeroL at h
  cases hz : zeroT P t with
  | none => simp [hz] at h
  | some z =>
    cases hu : P.underlying t with
    | none => simp [hz, hu] at h
    | some d =>
      cases d with
      | struct fs =>
        simp only [hz, hu, Option.map_some] at h
        split at h
        · rename_i hall
          cases hf : fillA (placeT P fs) (z.cells.toList.map .s) parts with
          | none => simp [hf] at h
          | some cells =>
            simp only [hf, Option.map_some, Option.some.injEq] at h; subst h
            obtain ⟨cs, h1, h2⟩ := fill_ok (ρ := ρ) (G := G) (w := w) parts cparts.toList _ z.cells cells hi hp (RVs_scalars _) hf
            refine ⟨.agg cs, ?_, by simp only [RV]; exact ⟨cs, rfl, h2⟩⟩
            have hplace : (fun i => (fs.map fun f => (f.offset, (szT P f.type).getD 0))[i]?) = placeT P fs := by
              funext i
              simp only [placeT, Array.getElem?_map]
              cases hfi : fs[i]? with
              | none => simp
              | some f =>
                have h0 := Array.all_eq_true'.1 hall f (Array.mem_of_getElem? hfi)
                cases hs : szT P f.type with
                | none => simp [hs] at h0
                | some n => simp [hs]
            simp only [Instr.build, Sem.run_bind, run_zeroValue hz, run_underlying hu, Result.andThen_ok, run_fields hall]
            rw [hplace, h1]
            simp
        · cases h
      | array n e =>
        simp only [hz, hu, Option.map_some] at h
        cases hs : szT P e with
        | none => simp [hs] at h
        | some m =>
          simp only [hs] at h
          cases hf : fillA (fun i => some (i * m, m)) (z.cells.toList.map .s) parts with
          | none => simp [hf] at h
          | some cells =>
            simp only [hf, Option.map_some, Option.some.injEq] at h; subst h
            obtain ⟨cs, h1, h2⟩ := fill_ok (ρ := ρ) (G := G) (w := w) parts cparts.toList _ z.cells cells hi hp (RVs_scalars _) hf
            refine ⟨.agg cs, ?_, by simp only [RV]; exact ⟨cs, rfl, h2⟩⟩
            simp only [Instr.build, Sem.run_bind, run_zeroValue hz, run_underlying hu, Result.andThen_ok, run_sizeOf hs, h1, Sem.run_pure]
      | _ => simp [hz, hu] at h
theorem zerosL_get (z : List AV) (hz : 0 < z.length) : ∀ (n i : Nat), i < n * z.length → (zerosL z n)[i]? = z[i % z.length]?
  | 0, i, h => by simp at h
  | n + 1, i, h => by
    simp only [zerosL]
    rw [List.getElem?_append]
    by_cases hi : i < z.length
    · rw [if_pos hi, Nat.mod_eq_of_lt hi]
    · have hmod : (i - z.length) % z.length = i % z.length := by rw [Nat.mod_eq_sub_mod (a := i) (by omega)]
      rw [if_neg hi, zerosL_get z hz n (i - z.length) (by rw [Nat.add_mul, Nat.one_mul] at h; omega), hmod]
theorem zerosL_length (z : List AV) : ∀ n, (zerosL z n).length = n * z.length
  | 0 => by simp [zerosL]
  | n + 1 => by simp [zerosL, zerosL_length z n, Nat.add_mul]; omega
/-- So many zero values, one behind the other, as the model makes them. -/
theorem RVs_zeros (z : Value) (n : Nat) : RVs ρ G w (zerosL (z.cells.toList.map .s) n) ((Array.range (n * z.cells.size)).map (z.cells[· % z.cells.size]!)).toList := by
  have hl : (z.cells.toList.map AV.s).length = z.cells.size := by simp
  refine RVs_of_get (by rw [zerosL_length, hl]; simp) fun i x hx => ?_
  have hi : i < n * z.cells.size := by
    rcases Nat.lt_or_ge i (n * z.cells.size) with h | h
    · exact h
    · rw [List.getElem?_eq_none (by rw [zerosL_length, hl]; exact h)] at hx; cases hx
  have hpos : 0 < z.cells.size := by
    rcases Nat.eq_zero_or_pos z.cells.size with h | h
    · rw [h, Nat.mul_zero] at hi; omega
    · exact h
  rw [zerosL_get _ (by rw [hl]; exact hpos) n i (by rw [hl]; exact hi), hl] at hx
  have hm : i % z.cells.size < z.cells.size := Nat.mod_lt _ hpos
  refine ⟨z.cells[i % z.cells.size], ?_, ?_⟩
  · simp [hi, hm]
  · have : x = .s z.cells[i % z.cells.size] := by
      simp [hm] at hx
      exact hx.symm
    subst this
    simp only [RV]
theorem elemT_eq {t e : TypeId} (h : elemT P t = some e) : P.underlying t = some (.slice e) := by
  unfold elemT at h
  split at h
  · rename_i hu; cases h; exact hu
  · cases h
theorem zeroL_eq {t : TypeId} {z : List AV} (h : zeroL P t = some z) : ∃ v, zeroT P t = some v ∧ z = v.cells.toList.map .s := by
  unfold zeroL at h
  cases hz : zeroT P t with
  | none => simp [hz] at h
  | some v => simp [hz] at h; exact ⟨v, rfl, h.symm⟩
/-- A new slice that owns a whole new row. -/
theorem newSlice_ok (R : Rel ρ H w) {e : TypeId} {cells : List AV} {cs : Array Value} {m len cap c : Nat} {ex : Bool} (hc : RVs ρ H.gen w cells (cs.toList.take cells.length)) (hle : cells.length ≤ cs.size) (h1 : len ≤ cap) (h2 : cap ≤ c) (h3 : ex = true → c = cap) (h4 : c * m ≤ cs.size) {ty : TypeId} (hX : Xct ty e 0 cs.size cells.length) :
    ∃ ρ', Rel ρ' (H.new (.blk 0 ty cells)) (w.alloc (.cells cs e)) ∧ RV ρ' (H.new (.blk 0 ty cells)).gen (w.alloc (.cells cs e)) (.sl H.next 0 0 m len cap ex) (.slice (some ⟨w.heap.size, 0, none⟩) len c) ∧ Ext ρ H w ρ' (H.new (.blk 0 ty cells)) (w.alloc (.cells cs e)) := by
  have hn := new_blk (e := e) (ty := ty) (cells := cells) (cs := cs) R hle (fun i x hx => by
    obtain ⟨u, hu, h5⟩ := RVs_get hc hx
    rw [List.getElem?_take] at hu
    split at hu
    · exact ⟨u, by simpa using hu, h5⟩
    · cases hu) hX
  refine ⟨_, hn.1, ?_, hn.2⟩
  simp only [RV]
  refine ⟨w.heap.size, 0, c, rfl, h1, h2, h3, by omega, fun _ => ⟨0, e, cs.size, by simp [updρ], fun _ => rfl, ?_, by omega⟩⟩
  rw [shape?_eq, alloc_heap]; rfl
theorem RVs_all {xs : List AV} {l : List Value} (h : RVs ρ G w xs l) : RVs ρ G w xs (l.take xs.length) := by
  rw [List.take_of_length_le (by rw [RVs_length h]; exact Nat.le_refl _)]; exact h
theorem buildSlice_ok (R : Rel ρ H w) {t : TypeId} {len : Nat} {parts : List (Nat × AV)} {cparts : Array (Nat × Value)} (hi : parts.map (·.1) = cparts.toList.map (·.1)) (hp : RVs ρ H.gen w (parts.map (·.2)) (cparts.toList.map (·.2)))
    (h : buildSliceA P t len parts H = some (v, H')) : Ok P ρ H w (Instr.buildSlice t len cparts) v H' := by
  unfold buildSliceA at h
  cases he : elemT P t with
  | none => simp [he] at h
  | some e =>
    simp only [he] at h
    cases hs : szT P e with
    | none => simp [hs] at h
    | some m =>
      cases hz : zeroL P e with
      | none => simp [hs, hz] at h
      | some z =>
        simp only [hs, hz] at h
        obtain ⟨zv, hzv, rfl⟩ := zeroL_eq hz
        split at h <;> first | (cases h; done) | skip
        rename_i hcond
        obtain ⟨hzl, hbig⟩ := hcond
        simp at hzl
        split at h <;> first | (cases h; done) | skip
        rename_i cells hf
        split at h <;> first | (cases h; done) | skip
        simp only [Option.some.injEq, Prod.mk.injEq] at h
        obtain ⟨rfl, rfl⟩ := h
        -- the zero cells
        obtain ⟨zc, hzr, hz0⟩ : ∃ zc : Array Value, RVs ρ H.gen w (zerosL (zv.cells.toList.map .s) len) ((Array.range (len * m)).map (zc[· % zc.size]!)).toList ∧ ((len * m = 0 ∧ zc = #[]) ∨ (¬ len * m = 0 ∧ zc = zv.cells)) := by
          by_cases h0 : len * m = 0
          · refine ⟨#[], ?_, .inl ⟨h0, rfl⟩⟩
            rw [h0]
            have : zerosL (zv.cells.toList.map .s) len = [] := List.eq_nil_of_length_eq_zero (by rw [zerosL_length]; simp [hzl, h0])
            rw [this]; simp [RVs]
          · refine ⟨zv.cells, ?_, .inr ⟨h0, rfl⟩⟩
            have := RVs_zeros (ρ := ρ) (G := H.gen) (w := w) zv len
            rw [hzl] at this ⊢
            exact this
        obtain ⟨cs, h1, h2⟩ := fill_ok parts cparts.toList _ _ cells hi hp hzr hf
        have hlen := RVs_length h2
        have hfl : cs.size = len * m := by
          have hsz : ∀ (place : Nat → Option (Nat × Nat)) (l : List (Nat × Value)) (a b : Array Value), Instr.fill place a l = some b → b.size = a.size := by
            intro place l
            induction l with
            | nil => intro a b h; simp [Instr.fill] at h; rw [h]
            | cons p l ih =>
              intro a b h
              obtain ⟨i, x⟩ := p
              simp only [Instr.fill] at h
              split at h
              · cases h
              · split at h
                · cases h
                · rw [ih _ _ h, ← Array.foldl_toList, Array.toList_zipIdx, foldl_sets, setMany_size]
          rw [hsz _ _ _ _ h1]; simp
        obtain ⟨ρ', q1, q2, q3⟩ := newSlice_ok (ty := e) (hX := Xct.low (zeroT_lt hzv) (by have := hlen; rw [array_toList_length] at this; omega)) (e := e) (cells := cells) (cs := cs) (m := m) (len := len) (cap := len) (c := len) (ex := true) R (RVs_all h2) (by rw [← hlen, array_toList_length]; exact Nat.le_refl _) (Nat.le_refl _) (Nat.le_refl _) (fun _ => rfl) (by rw [hfl]; exact Nat.le_refl _)
        refine ⟨_, ρ', _, ?_, q1, q2, q3⟩
        have hnb : ¬ len * m > 2 ^ 24 := by omega
        simp only [Instr.buildSlice, Sem.run_bind, run_underlying (elemT_eq he), Result.andThen_ok, run_sizeOf hs, hnb, if_false, Sem.run_pure]
        rcases hz0 with ⟨h0, rfl⟩ | ⟨h0, rfl⟩
        · rw [if_pos h0]
          simp only [Result.andThen_ok, h1, Sem.run_bind, newRow, run_newObj, Sem.run_pure]
          rfl
        · rw [if_neg h0]
          simp only [Result.andThen_ok, h1, Sem.run_bind, newRow, run_newObj, Sem.run_pure, run_zeroValue hzv]
          rfl
theorem makeSlice_ok (R : Rel ρ H w) {t : TypeId} {x y : AV} {cx cy : Value} (hx : RV ρ H.gen w x cx) (hy : RV ρ H.gen w y cy) (h : makeSliceA P t x y H = some (v, H')) : Ok P ρ H w (Instr.makeSlice t cx cy) v H' := by
  unfold makeSliceA at h
  split at h <;> first | (cases h; done) | skip
  rename_i e k1 l k2 c he
  simp only [RV] at hx hy
  subst hx hy
  cases hs : szT P e with
  | none => simp [hs] at h
  | some m =>
    cases hb : bytesT P e with
    | none => simp [hs, hb] at h
    | some by_ =>
      cases hz : zeroL P e with
      | none => simp [hs, hb, hz] at h
      | some z =>
        simp only [hs, hb, hz] at h
        obtain ⟨zv, hzv, rfl⟩ := zeroL_eq hz
        split at h <;> first | (cases h; done) | skip
        rename_i hcond
        obtain ⟨hzl, hcell, h0, h1, h2, h3⟩ := hcond
        simp at hzl
        simp only [Option.some.injEq, Prod.mk.injEq] at h
        obtain ⟨rfl, rfl⟩ := h
        cases hinf : P.info? e with
        | none => simp [szT, hinf] at hs
        | some inf =>
          simp [szT, hinf] at hs
          simp [bytesT, hinf] at hb
          have hzi : inf.zero = some zv := by simpa [hinf] using zeroT_of hzv
          have hrun := run_make (P := P) (w := w) t e inf zv (elemT_eq he) hinf hzi k1 k2 l c h0 h1 (by rw [hb]; omega) (by omega)
          have hzeros := RVs_zeros (ρ := ρ) (G := H.gen) (w := w) zv c.toNat
          have heq : ((Array.range (c.toNat * zv.cells.size)).map (zv.cells[· % zv.cells.size]!)) = madeCells zv.cells (c.toNat * inf.size) := by
            rw [madeCells, hs, hzl]
          have hml : (madeCells zv.cells (c.toNat * inf.size)).size = c.toNat * m := by rw [size_madeCells, hs]
          have hzz : (zerosL (zv.cells.toList.map .s) c.toNat).length = c.toNat * m := by rw [zerosL_length]; simp [hzl]
          obtain ⟨ρ', q1, q2, q3⟩ := newSlice_ok (ty := e) (hX := Xct.low (zeroT_lt hzv) (by rw [hml, hzz])) (e := e) (cells := zerosL (zv.cells.toList.map .s) c.toNat) (cs := madeCells zv.cells (c.toNat * inf.size)) (m := m) (len := l.toNat) (cap := c.toNat) (c := c.toNat) (ex := true) R
            (RVs_all (by rw [heq] at hzeros; exact hzeros)) (by rw [hml, hzz]; exact Nat.le_refl _) (by omega) (Nat.le_refl _) (fun _ => rfl) (by rw [hml]; exact Nat.le_refl _)
          exact ⟨_, ρ', _, hrun, q1, q2, q3⟩
end

end Go.Proofs.YtjmldnpdfnklcaaDoor

namespace Go.Proofs.YtjmldnpdfnklcaaDoor

section
variable {P : Program} {ρ : Ren} {G : Nat → Nat} {H H' : AHeap} {w : World} {v : AV}
theorem mapT_eq {t : TypeId} {k : IntKind} {e : TypeId} (h : mapT P t = some (k, e)) : ∃ kt, P.underlying t = some (.map kt e) ∧ P.underlying kt = some (.int k) := by
  unfold mapT at h
  split at h
  · rename_i kt e' hu
    split at h
    · rename_i ik hk
      simp only [Option.some.injEq, Prod.mk.injEq] at h
      obtain ⟨rfl, rfl⟩ := h
      exact ⟨kt, hu, hk⟩
    · cases h
  · cases h
theorem run_getMap {b : Nat} {ces : Array MapEntry} {cl : Nat} (h : w.heap[b]? = some (.map ces cl)) : (getObj b).run P w = .ok (.map ces cl) w := by
  simp [getObj, Sem.run, h]
theorem run_setMap {b : Nat} {ces : Array MapEntry} {cl : Nat} {o : Obj} (h : w.heap[b]? = some (.map ces cl)) : (setObj b o).run P w = .ok () (setBlk w b o) := by
  simp [setObj, Sem.run, h, setBlk]
theorem run_checkKey {kt : TypeId} {k : IntKind} {n : Int} (hk : P.underlying kt = some (.int k)) (e : Bool) (d : Nat) : (Instr.checkKey e (d + 1) kt (.int k n)).run P w = .ok () w := by
  simp [Instr.checkKey, run_underlying hk]
theorem findNow_none {k : IntKind} {n : Int} : ∀ (es : List (Int × AV)) (l : List MapEntry) (i : Nat), RVm ρ G w k es l → findE es n = none → Instr.findNow (.int k) (.int k n) l i = some none
  | [], l, i, h, _ => by simp only [RVm] at h; subst h; rfl
  | (m, x) :: es, l, i, h, hf => by
    obtain ⟨e, l', rfl, hk, _, h2⟩ := (by simpa only [RVm] using h)
    simp only [findE] at hf
    split at hf
    · cases hf
    · rename_i hne
      simp only [Instr.findNow, hk, Instr.sameNow]
      have : (n == m) = false := by simp; omega
      simp [this, findNow_none es l' (i + 1) h2 hf]
theorem findNow_some {k : IntKind} {n : Int} {x : AV} : ∀ (es : List (Int × AV)) (l : List MapEntry) (i : Nat), RVm ρ G w k es l → findE es n = some x →
    ∃ j e, Instr.findNow (.int k) (.int k n) l i = some (some (i + j, e.val)) ∧ l[j]? = some e ∧ e.key = .int k n ∧ RV ρ G w x e.val ∧
      (∀ y cy, RV ρ G w y cy → RVm ρ G w k (putE es n y) (l.modify j fun e => { e with key := .int k n, val := cy })) ∧ RVm ρ G w k (dropE es n) (l.eraseIdx j)
  | [], l, i, h, hf => by simp [findE] at hf
  | (m, z) :: es, l, i, h, hf => by
    obtain ⟨e, l', rfl, hk, h1, h2⟩ := (by simpa only [RVm] using h)
    simp only [findE] at hf
    split at hf
    · rename_i heq
      cases hf
      subst heq
      refine ⟨0, e, ?_, rfl, hk, h1, fun y cy hy => ?_, ?_⟩
      · simp [Instr.findNow, hk, Instr.sameNow]
      · simp only [putE, if_true, List.modify_zero_cons, RVm]
        exact ⟨_, _, rfl, rfl, hy, h2⟩
      · simpa only [dropE, if_true, List.eraseIdx_zero, List.tail_cons] using h2
    · rename_i hne
      obtain ⟨j, e', p1, p2, p3, p4, p5, p6⟩ := findNow_some es l' (i + 1) h2 hf
      refine ⟨j + 1, e', ?_, by simpa using p2, p3, p4, fun y cy hy => ?_, ?_⟩
      · have : (n == m) = false := by simp; omega
        simp only [Instr.findNow, hk, Instr.sameNow, if_true, this]
        rw [p1, show i + 1 + j = i + (j + 1) from by omega]
      · simp only [putE, if_neg hne, List.modify_succ_cons, RVm]
        exact ⟨_, _, rfl, hk, h1, p5 y cy hy⟩
      · simp only [dropE, if_neg hne, List.eraseIdx_cons_succ, RVm]
        exact ⟨_, _, rfl, hk, h1, p6⟩
theorem putE_none {k : IntKind} {n : Int} {y : AV} {cy : Value} {born : Nat} (hy : RV ρ G w y cy) : ∀ (es : List (Int × AV)) (l : List MapEntry), RVm ρ G w k es l → findE es n = none → RVm ρ G w k (putE es n y) (l ++ [{ key := .int k n, val := cy, born }])
  | [], l, h, _ => by
    simp only [RVm] at h; subst h
    simp only [putE, List.nil_append, RVm]
    exact ⟨_, _, rfl, rfl, hy, rfl⟩
  | (m, z) :: es, l, h, hf => by
    obtain ⟨e, l', rfl, hk, h1, h2⟩ := (by simpa only [RVm] using h)
    simp only [findE] at hf
    split at hf
    · cases hf
    · rename_i hne
      simp only [putE, if_neg hne, List.cons_append, RVm]
      exact ⟨_, _, rfl, hk, h1, putE_none hy es l' h2 hf⟩
theorem dropE_none {n : Int} : ∀ (es : List (Int × AV)), findE es n = none → dropE es n = es
  | [], _ => rfl
  | (m, z) :: es, hf => by
    simp only [findE] at hf
    split at hf
    · cases hf
    · rename_i hne
      simp only [dropE, if_neg hne, dropE_none es hf]
theorem run_findKey {kt : TypeId} {k : IntKind} {n : Int} {l : List MapEntry} {r : Option (Nat × Value)} (hk : P.underlying kt = some (.int k)) (h : Instr.findNow (.int k) (.int k n) l 0 = some r) :
    (Instr.findKey kt (.int k n) l).run P w = .ok r w := by
  simp [Instr.findKey, run_underlying hk, h]
theorem Born.push {es : List MapEntry} {cl : Nat} (h : Born es cl) {key val : Value} : Born (es ++ [{ key, val, born := cl }]) (cl + 1) := by
  obtain ⟨h1, h2⟩ := h
  refine ⟨fun x hx => ?_, ?_⟩
  · rcases List.mem_append.1 hx with hx | hx
    · exact Nat.lt_succ_of_lt (h1 x hx)
    · rw [List.mem_singleton] at hx; subst hx; exact Nat.lt_succ_self _
  · rw [List.map_append]
    refine List.nodup_append.2 ⟨h2, by simp, fun a ha c hc => ?_⟩
    simp only [List.map_cons, List.map_nil, List.mem_singleton] at hc
    subst hc
    obtain ⟨x, hx, rfl⟩ := List.mem_map.1 ha
    exact Nat.ne_of_lt (h1 x hx)
theorem map_modify_born {g : MapEntry → MapEntry} (hg : ∀ e, (g e).born = e.born) : ∀ (es : List MapEntry) (j : Nat), (es.modify j g).map (·.born) = es.map (·.born)
  | [], j => by simp
  | e :: es, 0 => by simp [hg]
  | e :: es, j + 1 => by simp [map_modify_born hg es j]
theorem Born.modify {es : List MapEntry} {cl : Nat} (h : Born es cl) {j : Nat} {g : MapEntry → MapEntry} (hg : ∀ e, (g e).born = e.born) : Born (es.modify j g) cl := by
  have hm := map_modify_born hg es j
  refine ⟨fun x hx => ?_, by rw [hm]; exact h.2⟩
  have : x.born ∈ es.map (·.born) := by rw [← hm]; exact List.mem_map.2 ⟨x, hx, rfl⟩
  obtain ⟨y, hy, e⟩ := List.mem_map.1 this
  have := h.1 y hy
  rw [← e]; exact this
theorem Born.erase {es : List MapEntry} {cl : Nat} (h : Born es cl) {j : Nat} : Born (es.eraseIdx j) cl :=
  ⟨fun x hx => h.1 x ((List.eraseIdx_sublist _ _).mem hx), h.2.sublist ((List.eraseIdx_sublist _ _).map _)⟩
theorem map_obj (R : Rel ρ H w) {r : Nat} {k : IntKind} {es : List (Int × AV)} {cx : Value} (hx : RV ρ H.gen w (.mp r) cx) (ho : H.get r = .map k es) :
    ∃ b ces cl, cx = .map (some b) ∧ ρ r = some (b, 0) ∧ w.heap[b]? = some (.map ces cl) ∧ RVm ρ H.gen w k es ces.toList ∧ Born ces.toList cl := by
  simp only [RV] at hx
  obtain ⟨b, rfl, hr⟩ := hx
  have hr := hr (by simp [AHeap.gen, ho, AObj.gen])
  have hobj := R.obj r b 0 hr
  simp only [RObj, ho] at hobj
  obtain ⟨ces, cl, h1, _, h2, h3⟩ := hobj
  exact ⟨b, ces, cl, rfl, hr, h1, h2, h3⟩
theorem lookup_ok (R : Rel ρ H w) {t : TypeId} {x i : AV} {ok : Bool} {cx ci : Value} (hx : RV ρ H.gen w x cx) (hi : RV ρ H.gen w i ci) (h : lookupA P t x i ok H = some (v, H')) : H' = H ∧ OkP P ρ H.gen w (Instr.lookup t cx ci ok) v := by
  obtain ⟨h', hh⟩ := lookB_eq h
  clear h
  subst hh
  have h := h'
  clear h'
  refine ⟨rfl, ?_⟩
  unfold lookupO at h
  split at h <;> first | (cases h; done) | skip
  rename_i k e hm
  obtain ⟨kt, hu, hk⟩ := mapT_eq hm
  split at h <;> first | (cases h; done) | skip
  rename_i z hz
  split at h <;> first | (cases h; done) | skip
  rename_i r
  split at h <;> first | (cases h; done) | skip
  rename_i k' n
  split at h <;> first | (cases h; done) | skip
  rename_i k'' es ho
  simp only [watchV, Option.map_some, Option.some.injEq] at ho
  split at h <;> first | (cases h; done) | skip
  rename_i hkk
  obtain ⟨rfl, rfl⟩ := hkk
  obtain ⟨b, ces, cl, rfl, hr, hb, hes, hbn⟩ := map_obj R hx ho
  simp only [RV] at hi
  subst hi
  have hck : ∀ e', (Instr.checkKey e' 10000 kt (.int k'' n)).run P w = .ok () w := fun e' => run_checkKey hk e' 9999
  cases hf : findE es n with
  | none =>
    simp only [hf, Option.some.injEq] at h
    subst h
    have hfind := run_findKey (P := P) (w := w) hk (findNow_none es ces.toList 0 hes hf)
    refine ⟨if ok then .tuple #[z, .bool false] else z, ?_, ?_⟩
    · simp only [Instr.lookup, Sem.run_bind, run_underlying hu, Result.andThen_ok, run_getMap hb, Sem.run_pure, hck, hfind, run_zeroValue hz]
    · cases ok
      · simp only [RV, Bool.false_eq_true, if_false]
      · simp only [RV, if_true]
        exact ⟨_, rfl, RVs_cons (by simp only [RV]) (RVs_cons (by simp only [RV]) RVs_nil)⟩
  | some y =>
    simp only [hf, Option.some.injEq] at h
    subst h
    obtain ⟨j, en, p1, p2, p3, p4, _⟩ := findNow_some es ces.toList 0 hes hf
    have hfind := run_findKey (P := P) (w := w) hk p1
    refine ⟨if ok then .tuple #[en.val, .bool true] else en.val, ?_, ?_⟩
    · simp only [Instr.lookup, Sem.run_bind, run_underlying hu, Result.andThen_ok, run_getMap hb, Sem.run_pure, hck, hfind]
    · cases ok
      · simpa only [Bool.false_eq_true, if_false] using p4
      · simp only [RV, if_true]
        exact ⟨_, rfl, RVs_cons p4 (RVs_cons (by simp only [RV]) RVs_nil)⟩
theorem mapUpdate_ok (R : Rel ρ H w) {t : TypeId} {x i y : AV} {cx ci cy : Value} (hx : RV ρ H.gen w x cx) (hi : RV ρ H.gen w i ci) (hy : RV ρ H.gen w y cy) (h : mapUpdateA P t x i y H = some (v, H')) :
    v = undefA ∧ ∃ ρ' w', (Instr.mapUpdate t cx ci cy).run P w = .ok () w' ∧ Rel ρ' H' w' ∧ Ext ρ H w ρ' H' w' := by
  unfold mapUpdateA at h
  split at h <;> first | (cases h; done) | skip
  rename_i k e r k' n hm
  obtain ⟨kt, hu, hk⟩ := mapT_eq hm
  split at h <;> first | (cases h; done) | skip
  rename_i k'' es ho
  split at h <;> first | (cases h; done) | skip
  rename_i hkk
  obtain ⟨rfl, rfl, _⟩ := hkk
  simp only [Option.some.injEq, Prod.mk.injEq] at h
  obtain ⟨rfl, rfl⟩ := h
  obtain ⟨b, ces, cl, rfl, hr, hb, hes, hbn⟩ := map_obj R hx ho
  simp only [RV] at hi
  subst hi
  have hck : (Instr.checkKey false 10000 kt (.int k'' n)).run P w = .ok () w := run_checkKey hk false 9999
  cases hf : findE es n with
  | none =>
    have hfind := run_findKey (P := P) (w := w) hk (findNow_none es ces.toList 0 hes hf)
    have hput := put_map (es' := putE es n y) (ces' := ces.push { key := .int k'' n, val := cy, born := cl }) (cl' := cl + 1) R hr ho hb (by rw [Array.toList_push]; exact putE_none hy es _ hes hf) (by rw [Array.toList_push]; exact hbn.push)
    refine ⟨rfl, ρ, _, ?_, hput.1, hput.2⟩
    simp only [Instr.mapUpdate, Sem.run_bind, run_underlying hu, Result.andThen_ok, run_getMap hb, hck, hfind, run_setMap hb]
  | some z =>
    obtain ⟨j, en, p1, p2, p3, p4, p5, _⟩ := findNow_some es ces.toList 0 hes hf
    rw [Nat.zero_add] at p1
    have hfind := run_findKey (P := P) (w := w) hk p1
    have hput := put_map (es' := putE es n y) (ces' := ces.modify j fun e => { e with key := .int k'' n, val := cy }) (cl' := cl) R hr ho hb (by rw [Array.toList_modify]; exact p5 y cy hy) (by rw [Array.toList_modify]; exact hbn.modify fun _ => rfl)
    refine ⟨rfl, ρ, _, ?_, hput.1, hput.2⟩
    have hg : ces[j]? = some en := by simpa using p2
    have hstay : Instr.keyThatStays en.key (.int k'' n) = pure (.int k'' n) := by
      rw [p3]; simp [Instr.keyThatStays, Instr.sameBits]
    simp only [Instr.mapUpdate, Sem.run_bind, run_underlying hu, Result.andThen_ok, run_getMap hb, hck, hfind, hg, Option.map_some, Option.getD_some, hstay, Sem.run_pure, run_setMap hb]
theorem delete_ok (R : Rel ρ H w) {t ty : TypeId} {ts : Array TypeId} {x i : AV} {cx ci : Value} (ht : ts[0]? = some t) (hx : RV ρ H.gen w x cx) (hi : RV ρ H.gen w i ci) (h : deleteA P t x i H = some (v, H')) :
    Ok P ρ H w (Builtin.delete_ ts ty #[cx, ci]) v H' := by
  unfold deleteA at h
  split at h <;> first | (cases h; done) | skip
  rename_i k e r k' n hm
  obtain ⟨kt, hu, hk⟩ := mapT_eq hm
  split at h <;> first | (cases h; done) | skip
  rename_i k'' es ho
  split at h <;> first | (cases h; done) | skip
  rename_i hkk
  obtain ⟨rfl, rfl, _⟩ := hkk
  simp only [Option.some.injEq, Prod.mk.injEq] at h
  obtain ⟨rfl, rfl⟩ := h
  obtain ⟨b, ces, cl, rfl, hr, hb, hes, hbn⟩ := map_obj R hx ho
  simp only [RV] at hi
  subst hi
  have hck : ∀ e', (Instr.checkKey e' 10000 kt (.int k'' n)).run P w = .ok () w := fun e' => run_checkKey hk e' 9999
  have a0 : (#[Value.map (some b), Value.int k'' n] : Array Value)[0]? = some (.map (some b)) := rfl
  have a1 : (#[Value.map (some b), Value.int k'' n] : Array Value)[1]? = some (.int k'' n) := rfl
  cases hf : findE es n with
  | none =>
    have hfind := run_findKey (P := P) (w := w) hk (findNow_none es ces.toList 0 hes hf)
    have hput := put_map (es' := dropE es n) (ces' := ces) (cl' := cl) R hr ho hb (by rw [dropE_none es hf]; exact hes) hbn
    refine ⟨.tuple #[], ρ, _, ?_, hput.1, by simp only [RV]; exact ⟨_, rfl, RVs_nil⟩, hput.2⟩
    simp only [Builtin.delete_, ht, a0, a1, Sem.run_bind, run_underlying hu, Result.andThen_ok, run_getMap hb, hck, hfind, run_setMap hb, Sem.run_pure]
  | some z =>
    obtain ⟨j, en, p1, p2, p3, p4, _, p6⟩ := findNow_some es ces.toList 0 hes hf
    rw [Nat.zero_add] at p1
    have hfind := run_findKey (P := P) (w := w) hk p1
    have hput := put_map (es' := dropE es n) (ces' := ces.eraseIdxIfInBounds j) (cl' := cl) R hr ho hb (by
      have : (ces.eraseIdxIfInBounds j).toList = ces.toList.eraseIdx j := by simp
      rw [this]; exact p6) (by
      have : (ces.eraseIdxIfInBounds j).toList = ces.toList.eraseIdx j := by simp
      rw [this]; exact hbn.erase)
    refine ⟨.tuple #[], ρ, _, ?_, hput.1, by simp only [RV]; exact ⟨_, rfl, RVs_nil⟩, hput.2⟩
    simp only [Builtin.delete_, ht, a0, a1, Sem.run_bind, run_underlying hu, Result.andThen_ok, run_getMap hb, hck, hfind, run_setMap hb, Sem.run_pure]
theorem makeMap_ok (R : Rel ρ H w) {t : TypeId} (h : makeMapA P t H = some (v, H')) : Ok P ρ H w (Instr.makeMap t none) v H' := by
  unfold makeMapA at h
  split at h <;> first | (cases h; done) | skip
  rename_i k e hm
  simp only [Option.some.injEq, Prod.mk.injEq] at h
  obtain ⟨rfl, rfl⟩ := h
  have E := new_ext R (o := .map k []) (co := .map #[] 0)
  refine ⟨.map (some w.heap.size), _, _, by simp [Instr.makeMap], new_rel R ⟨#[], 0, alloc_heap w _, rfl, by simp [RVm], by simp [Born]⟩, ?_, E⟩
  simp only [RV]
  exact ⟨_, rfl, fun _ => by simp [updρ]⟩
theorem len_ok (R : Rel ρ H w) {t ty : TypeId} {x : AV} {cx : Value} (hx : RV ρ H.gen w x cx) (h : lenA P t x H = some (v, H')) : H' = H ∧ OkP P ρ H.gen w (Builtin.len_ #[t] ty #[cx]) v := by
  have a0 : (#[t] : Array TypeId)[0]? = some t := rfl
  have a1 : (#[cx] : Array Value)[0]? = some cx := rfl
  obtain ⟨h', hh⟩ := lookB_eq h
  clear h
  subst hh
  have h := h'
  clear h'
  refine ⟨rfl, ?_⟩
  unfold lenO at h
  cases hu : P.underlying t with
  | none => simp [hu] at h
  | some d =>
    cases d with
    | slice e =>
      simp only [hu] at h
      split at h <;> first | (cases h; done) | skip
      all_goals
        simp only [Option.some.injEq] at h
        subst h
        simp only [RV] at hx
      · obtain ⟨_, _, _, rfl, _⟩ := hx
        exact ⟨_, by simp [Builtin.len_, run_underlying hu]; rfl, by simp only [RV, goInt]⟩
      · obtain ⟨_, _, _, rfl, _⟩ := hx
        exact ⟨_, by simp [Builtin.len_, run_underlying hu]; rfl, by simp only [RV, goInt]⟩
      · subst hx
        exact ⟨_, by simp [Builtin.len_, run_underlying hu]; rfl, by simp only [RV, goInt]⟩
    | string =>
      simp only [hu] at h
      split at h <;> first | (cases h; done) | skip
      simp only [Option.some.injEq] at h
      subst h
      simp only [RV] at hx
      subst hx
      exact ⟨_, by simp [Builtin.len_, run_underlying hu]; rfl, by simp only [RV, goInt]⟩
    | map kt e =>
      simp only [hu] at h
      split at h <;> first | (cases h; done) | skip
      · split at h <;> first | (cases h; done) | skip
        rename_i k es ho
        simp only [watchV, Option.map_some, Option.some.injEq] at ho
        simp only [Option.some.injEq] at h
        subst h
        obtain ⟨b, ces, cl, rfl, hr, hb, hes, hbn⟩ := map_obj R hx ho
        have hl : ces.size = es.length := by
          have : ∀ (es : List (Int × AV)) (l : List MapEntry), RVm ρ H'.gen w k es l → l.length = es.length := by
            intro es
            induction es with
            | nil => intro l h; simp only [RVm] at h; subst h; rfl
            | cons p es ih =>
              intro l h
              obtain ⟨m, z⟩ := p
              obtain ⟨e, l', rfl, _, _, h2⟩ := (by simpa only [RVm] using h)
              simp [ih l' h2]
          rw [← this es _ hes, array_toList_length]
        refine ⟨.int .i64 es.length, ?_, by simp only [RV]⟩
        simp only [Builtin.len_, a0, a1, Sem.run_bind, run_underlying hu, Result.andThen_ok, run_getMap hb, Sem.run_pure, goInt, hl]
      · simp only [Option.some.injEq] at h
        subst h
        simp only [RV] at hx
        subst hx
        exact ⟨.int .i64 0, by simp [Builtin.len_, run_underlying hu, goInt], by simp only [RV]⟩
    | _ => simp [hu] at h
theorem cap_ok {t ty : TypeId} {x : AV} {cx : Value} (hx : RV ρ G w x cx) (h : capA P t x = some v) : OkP P ρ G w (Builtin.cap_ #[t] ty #[cx]) v := by
  unfold capA at h
  cases hu : P.underlying t with
  | none => simp [hu] at h
  | some d =>
    cases d with
    | slice e =>
      simp only [hu] at h
      split at h <;> first | (cases h; done) | skip
      all_goals
        simp only [Option.some.injEq] at h
        subst h
        simp only [RV] at hx
      · obtain ⟨_, _, c, rfl, _, _, h3, _⟩ := hx
        rw [h3 trivial]
        exact ⟨_, by simp [Builtin.cap_, run_underlying hu]; rfl, by simp only [RV, goInt]⟩
      · subst hx
        exact ⟨_, by simp [Builtin.cap_, run_underlying hu]; rfl, by simp only [RV, goInt]⟩
    | _ => simp [hu] at h
theorem minMax_ok {mx : Bool} {ts : Array TypeId} {ty : TypeId} {xs : List AV} {cs : Array Value} (hx : RVs ρ G w xs cs.toList) (h : minMaxA P mx ts ty xs = some v) :
    OkP P ρ G w (if mx then Builtin.max_ ts ty cs else Builtin.min_ ts ty cs) v := by
  unfold minMaxA at h
  cases hv : vals? xs with
  | none => simp [hv] at h
  | some vs =>
    simp only [hv] at h
    have he := vals_of xs _ vs hx hv
    have : cs = vs.toArray := by rw [← he]
    rw [this]
    cases hp : pureRun P (if mx = true then Builtin.max_ ts ty vs.toArray else Builtin.min_ ts ty vs.toArray) with
    | none => simp [hp] at h
    | some u => simp [hp] at h; subst h; exact ⟨u, pureRun_run hp w, by simp only [RV]⟩
end

end Go.Proofs.YtjmldnpdfnklcaaDoor

namespace Go.Proofs.YtjmldnpdfnklcaaDoor

theorem Ext.drew (ρ : Ren) (H : AHeap) (w : World) : Ext ρ H w ρ H w.drew where
  next := Nat.le_refl _
  mono := fun _ => Nat.le_refl _
  same := fun _ _ h _ => h
  kept := fun _ _ h => h
  range := fun _ _ sh h => .inr ⟨sh, h⟩
  size := Nat.le_refl _
  frame := fun _ _ _ => rfl
  shape := fun _ _ => rfl
  os := rfl
  tape := rfl
  output := rfl
theorem Rel.drew {ρ : Ren} {H : AHeap} {w : World} (R : Rel ρ H w) : Rel ρ H w.drew where
  out := R.out
  obj := fun r b sh h => RObj.mono (Ext.drew ρ H w).toMono rfl (R.obj r b sh h)
  inj := R.inj
  gl := R.gl.ext (Ext.drew ρ H w)
theorem move_ext {ρ : Ren} {H : AHeap} {w : World} {r : Nat} {y : Nat × Nat} (hx : ρ r = some y) {co : Obj} {o : AObj} (hg : H.gen r < o.gen) : Ext ρ H w (updρ ρ r (w.heap.size, 0)) (H.put r o) (w.alloc co) where
  next := Nat.le_refl _
  mono := fun x => by rw [put_gen]; split <;> simp_all; omega
  same := fun x y hx h => by
    rw [put_gen] at h
    unfold updρ
    split
    · rename_i e; subst e; simp at h; omega
    · exact hx
  kept := fun x _ h => by
    unfold updρ
    split
    · rename_i e; subst e; rw [hx] at h; cases h
    · exact h
  range := fun x b' s h => by
    unfold updρ at h
    split at h
    · cases h; exact .inl (Nat.le_refl _)
    · exact .inr ⟨_, h⟩
  size := by simp
  frame := fun b hb _ => by simp only [World.alloc, Array.getElem?_push, if_neg (Nat.ne_of_lt hb)]
  shape := fun b hb => by
    rw [shape?_eq, shape?_eq]
    simp only [World.alloc, Array.getElem?_push, if_neg (Nat.ne_of_lt hb)]
  os := rfl
  tape := rfl
  output := rfl
theorem move_rel {ρ : Ren} {H : AHeap} {w : World} (R : Rel ρ H w) {r : Nat} (hr : r < H.next) {y : Nat × Nat} (hy : ρ r = some y) {co : Obj} {o : AObj} (hg : H.gen r < o.gen)
    (ho : RObj (updρ ρ r (w.heap.size, 0)) (H.put r o).gen (w.alloc co) o w.heap.size 0) : Rel (updρ ρ r (w.heap.size, 0)) (H.put r o) (w.alloc co) where
  out := fun x hx => by
    have hx' : H.next ≤ x := hx
    have hne : x ≠ r := by omega
    rw [put_gen, if_neg hne]
    unfold updρ; rw [if_neg hne]
    exact R.out x hx'
  obj := fun x b' s h => by
    unfold updρ at h
    by_cases e : x = r
    · subst e
      simp at h
      obtain ⟨rfl, rfl⟩ := h
      simpa [AHeap.put] using ho
    · rw [if_neg e] at h
      have : (H.put r o).get x = H.get x := by simp [AHeap.put, e]
      rw [this]
      have hb := R.block h
      exact RObj.mono (move_ext (ρ := ρ) (w := w) (co := co) hy hg).toMono (by simp only [World.alloc, Array.getElem?_push, if_neg (Nat.ne_of_lt hb)]) (R.obj x b' s h)
  inj := fun x y b' s s' h h' => by
    unfold updρ at h h'
    split at h <;> split at h'
    · simp_all
    · cases h; have := R.block h'; omega
    · cases h'; have := R.block h; omega
    · exact R.inj _ _ _ _ _ h h'
  gl := R.gl.ext (move_ext (ρ := ρ) (w := w) (co := co) hy hg)
theorem move_blk {ρ : Ren} {H : AHeap} {w : World} (R : Rel ρ H w) {r g' : Nat} (hr : r < H.next) {y : Nat × Nat} (hy : ρ r = some y) (hg : H.gen r < g') {ty e : TypeId} {cells : List AV} {cs : Array Value} (hl : cells.length ≤ cs.size)
    (hc : ∀ (i : Nat) (x : AV), cells[i]? = some x → ∃ v, cs[i]? = some v ∧ RV ρ H.gen w x v) (hX : Xct ty e 0 cs.size cells.length) :
    Rel (updρ ρ r (w.heap.size, 0)) (H.put r (.blk g' ty cells)) (w.alloc (.cells cs e)) ∧ Ext ρ H w (updρ ρ r (w.heap.size, 0)) (H.put r (.blk g' ty cells)) (w.alloc (.cells cs e)) := by
  have E := move_ext (ρ := ρ) (H := H) (w := w) (r := r) (o := .blk g' ty cells) (co := .cells cs e) hy hg
  refine ⟨move_rel R hr hy hg ⟨cs, e, alloc_heap w _, by omega, ?_, hX⟩, E⟩
  refine RVc_of_array (alloc_heap w _) fun i x hx => ?_
  obtain ⟨v, hv, h1⟩ := hc i x hx
  exact ⟨v, by simpa using hv, R.keep E h1⟩
section
variable {P : Program} {ρ : Ren} {H H' : AHeap} {w : World} {v : AV}
/-- The cells of a slice or of a text, as the model reads them. -/
theorem firstCells_ok (R : Rel ρ H w) {y : AV} {cy : Value} {n m : Nat} {new : List AV} (hy : RV ρ H.gen w y cy) (hl : sliceLen y = some n) (hc : sliceCells H y = some new) (hn : new.length = n * m) :
    (Builtin.lenOf cy).run P w = .ok n w ∧ ∃ arr : Array Value, (Builtin.firstCells m n cy).run P w = .ok arr w ∧ RVs ρ H.gen w new arr.toList := by
  unfold sliceLen at hl
  split at hl <;> first | (cases hl; done) | skip
  · simp only [Option.some.injEq] at hl
    subst hl
    rename_i r g off esz len cap ex
    simp only [RV] at hy
    obtain ⟨b, o, c, rfl, q1, q2, q3, q4, q5⟩ := hy
    simp only [sliceCells] at hc
    split at hc <;> first | (cases hc; done) | skip
    rename_i g' ty cells ho
    split at hc <;> first | (cases hc; done) | skip
    rename_i hcond
    obtain ⟨rfl, hle⟩ := hcond
    simp only [Option.some.injEq] at hc
    subst hc
    obtain ⟨sh, e, k, hr, hoo, hsh, hcap⟩ := q5 (by simp [AHeap.gen, ho, AObj.gen])
    have hobj := R.obj r b sh hr
    simp only [RObj, ho] at hobj
    obtain ⟨cs, e', hb, hz, hcc, _⟩ := hobj
    refine ⟨by simp [Builtin.lenOf], ?_⟩
    by_cases h0 : len = 0
    · subst h0
      refine ⟨#[], ?_, by simp [RVs]⟩
      simp [Builtin.firstCells, loadCells, loadCellsFrom]
    · have ho' := hoo (by omega)
      have hcells : RVc ρ H.gen w ((cells.drop off).take (len * esz)) b (sh + off) := RVc_take _ (RVc_drop _ hcc)
      obtain ⟨l, hl', h1⟩ := run_loadCells (P := P) hcells
      rw [hn] at hl'
      exact ⟨l.toArray, by simp only [Builtin.firstCells, ho']; exact hl', by simpa using h1⟩
  · simp only [Option.some.injEq] at hl
    subst hl
    simp only [RV] at hy
    obtain ⟨b, o, c, rfl, q1, q2, q3, q4, q5⟩ := hy
    simp only [sliceCells, Option.some.injEq] at hc
    subst hc
    refine ⟨by simp [Builtin.lenOf], ?_⟩
    obtain ⟨l, hl', h1⟩ := run_loadCells (P := P) q5
    rw [hn] at hl'
    exact ⟨l.toArray, by simp only [Builtin.firstCells]; exact hl', by simpa using h1⟩
  · simp only [Option.some.injEq] at hl
    subst hl
    simp only [RV] at hy
    subst hy
    simp only [sliceCells, Option.some.injEq] at hc
    subst hc
    exact ⟨by simp [Builtin.lenOf], #[], by simp [Builtin.firstCells], by simp [RVs]⟩
  · simp only [Option.some.injEq] at hl
    subst hl
    simp only [RV] at hy
    subst hy
    simp only [sliceCells, Option.some.injEq] at hc
    subst hc
    rename_i s
    refine ⟨by simp [Builtin.lenOf], (s.data.map fun b => .int .u8 b.toNat), ?_, ?_⟩
    · have : s.extract 0 s.size = s := by
        apply ByteArray.ext
        simp
      simp [Builtin.firstCells, this]
    · have : (s.data.map fun b => Value.int .u8 b.toNat).toList = s.data.toList.map fun b => .int .u8 b.toNat := by simp
      rw [this]
      have h2 : (s.data.toList.map fun b => AV.s (.int .u8 b.toNat)) = (s.data.toList.map fun b => Value.int .u8 b.toNat).map .s := by simp
      rw [h2]
      exact RVs_scalars _
/-- What append does once its operands are known. -/
def appTail (elem : TypeId) (size : Nat) (zeros : Bool) (n : Nat) (appended : Sem (Array Value)) (base : Option Addr) (sLen sCap : Nat) (s x : Value) : Sem Value := do
  let need := sLen + n
  if need ≤ sCap then
    let new ← appended
    if let some a := base then storeCells (a.add (sLen * size)) new.toList
    pure (.slice base need sCap)
  else
    if (need : Int) > IntKind.i64.max ∧ (zeros ∨ (← typeInfo elem).bytes = 0) then runtimePanic (.error "growslice: len out of range")
    if Builtin.nextslicecap need sCap * (← typeInfo elem).bytes > 2 ^ 48 then (if zeros then runtimePanic (.error "growslice: len out of range") else do
      if !(← Builtin.mayShare size sLen n base x) then mark .noRoom
      unsupported (.resourceLimit "append: a slice or a string whose bytes no memory bears"))
    let newCap ← choose (.appendCap need sCap elem)
    askRoom (newCap * (← typeInfo elem).bytes)
    let old ← Builtin.firstCells size sLen s
    let new ← appended
    let rest := Builtin.zeroCells (← zeroValue elem).cells (newCap - need)
    pure (.slice (some (← newRow elem (old ++ new ++ rest))) need newCap)
theorem ite_ff {α : Type} (a b : α) : (if false = true then a else b) = b := rfl
theorem ite_tt {α : Type} (a b : α) : (if true = true then a else b) = a := rfl
theorem run_append_tail {t u ty e : TypeId} {d : TypeDesc} {m n sLen sCap : Nat} {base : Option Addr} {cy : Value} (hu : P.underlying t = some (.slice e)) (hs : szT P e = some m) (hd : P.underlying u = some d) (hnd : ∀ k, d ≠ .int k)
    (hl : (Builtin.lenOf cy).run P w = .ok n w) :
    (Builtin.append_ #[t, u] ty #[.slice base sLen sCap, cy]).run P w = (appTail e m false n (Builtin.firstCells m n cy) base sLen sCap (.slice base sLen sCap) cy).run P w := by
  have a0 : (#[t, u] : Array TypeId)[0]? = some t := rfl
  have a1 : (#[t, u] : Array TypeId)[1]? = some u := rfl
  have a2 : (#[Value.slice base sLen sCap, cy] : Array Value)[0]? = some (.slice base sLen sCap) := rfl
  have a3 : (#[Value.slice base sLen sCap, cy] : Array Value)[1]? = some cy := rfl
  cases d
  case int k => exact absurd rfl (hnd k)
  all_goals
    simp only [Builtin.append_, a0, a1, a2, a3, Sem.run_bind, run_underlying hu, Result.andThen_ok, run_sizeOf hs, run_underlying hd, Sem.run_pure, ite_ff, hl]
    rfl
theorem run_append_zeros {t u ty e : TypeId} {k : IntKind} {m by_ sLen sCap : Nat} {base : Option Addr} {k' : IntKind} {n : Int} (hu : P.underlying t = some (.slice e)) (hs : szT P e = some m) (hb : bytesT P e = some by_) (hd : P.underlying u = some (.int k))
    (h0 : 0 ≤ n) (h1 : n ≤ most) (h2 : n * by_ ≤ most) :
    (Builtin.append_ #[t, u] ty #[.slice base sLen sCap, .int k' n]).run P w =
      (appTail e m true n.toNat (if n.toNat * m = 0 then pure #[] else do pure (Builtin.zeroCells (← zeroValue e).cells n.toNat)) base sLen sCap (.slice base sLen sCap) (.int k' n)).run P w := by
  have a0 : (#[t, u] : Array TypeId)[0]? = some t := rfl
  have a1 : (#[t, u] : Array TypeId)[1]? = some u := rfl
  have a2 : (#[Value.slice base sLen sCap, .int k' n] : Array Value)[0]? = some (.slice base sLen sCap) := rfl
  have a3 : (#[Value.slice base sLen sCap, .int k' n] : Array Value)[1]? = some (.int k' n) := rfl
  have hw : IntKind.i64.wrap n = n := by rw [IntKind.wrap_i64]; unfold most at h1; omega
  have hinf : ∃ i, P.info? e = some i ∧ i.bytes = by_ := by
    unfold bytesT at hb
    cases hi : P.info? e with
    | none => simp [hi] at hb
    | some i => simp [hi] at hb; exact ⟨i, rfl, hb⟩
  obtain ⟨i, hi, rfl⟩ := hinf
  have hn : ¬ n < 0 := by omega
  have hnb : ¬ n * (i.bytes : Int) > 2 ^ 48 := by unfold most at h2; omega
  simp only [-eq_self, Builtin.append_, a0, a1, a2, a3, Sem.run_bind, run_underlying hu, Result.andThen_ok, run_sizeOf hs, run_underlying hd, Sem.run_pure, ite_tt, asInt, asIntOf, hw, hn, if_false, run_info hi, hnb]
  rfl
end

end Go.Proofs.YtjmldnpdfnklcaaDoor

namespace Go.Proofs.YtjmldnpdfnklcaaDoor

section
variable {P : Program} {ρ : Ren} {H H' : AHeap} {w : World} {v : AV}
theorem bytesT_eq {e : TypeId} {b : Nat} (h : bytesT P e = some b) : ∃ i, P.info? e = some i ∧ i.bytes = b := by
  unfold bytesT at h
  cases hi : P.info? e with
  | none => simp [hi] at h
  | some i => simp [hi] at h; exact ⟨i, rfl, h⟩
theorem run_grow {e : TypeId} {m n by_ sLen sCap : Nat} {zeros : Bool} {appended : Sem (Array Value)} {base : Option Addr} {s x zv : Value} {old arr : Array Value} (hb : bytesT P e = some by_) (hz : zeroT P e = some zv)
    (hneed : ¬ sLen + n ≤ sCap) (hmax : sLen + n ≤ most) (hbig : (sLen + n) * by_ ≤ most) (hold : (Builtin.firstCells m sLen s).run P w.drew = .ok old w.drew) (happ : appended.run P w.drew = .ok arr w.drew) :
    ∃ c, sLen + n ≤ c ∧ (appTail e m zeros n appended base sLen sCap s x).run P w =
      .ok (.slice (some ⟨w.heap.size, 0, none⟩) (sLen + n) c) (w.drew.alloc (.cells (old ++ arr ++ Builtin.zeroCells zv.cells (c - (sLen + n))) e)) := by
  obtain ⟨i, hi, rfl⟩ := bytesT_eq hb
  unfold most at hmax hbig
  have h1 : ¬ (((sLen + n : Nat) : Int) > IntKind.i64.max ∧ ((zeros : Prop) ∨ i.bytes = 0)) := by
    rintro ⟨h, _⟩
    rw [IntKind.max_i64] at h
    omega
  have h2 : ¬ Builtin.nextslicecap (sLen + n) sCap * i.bytes > 2 ^ 48 := by
    have := growslice_fits (need := sLen + n) (old := sCap) (bytes := i.bytes) (by omega) hbig
    omega
  have hf : (Question.appendCap (sLen + n) sCap e).forced = false := rfl
  refine ⟨(Question.appendCap (sLen + n) sCap e).cut (w.tape w.drawn (Question.appendCap (sLen + n) sCap e)), by simp [Question.cut], ?_⟩
  simp only [appTail, if_neg hneed, Sem.run_bind, run_info hi, Result.andThen_ok, if_neg h1, if_neg h2, Sem.run_pure, run_choose, hf, ite_ff, run_askRoom, World.drew_eq, hold, happ, run_zeroValue hz, newRow, run_newObj, World.alloc_eq]
  rfl
/-- The place where a slice with a name lies. -/
theorem sl_place (R : Rel ρ H w) {r g off esz len cap : Nat} {ex : Bool} {ty : TypeId} {cells : List AV} {cx : Value} (hx : RV ρ H.gen w (.sl r g off esz len cap ex) cx) (ho : H.get r = .blk g ty cells) :
    ∃ b o c sh cs e, cx = .slice (some ⟨b, o, none⟩) len c ∧ len ≤ cap ∧ cap ≤ c ∧ (ex = true → c = cap) ∧ ρ r = some (b, sh) ∧ (0 < c → o = sh + off) ∧ w.heap[b]? = some (.cells cs e (0, 0)) ∧ o + c * esz ≤ cs.size ∧
      sh + cells.length ≤ cs.size ∧ RVc ρ H.gen w cells b sh := by
  simp only [RV] at hx
  obtain ⟨b, o, c, rfl, q1, q2, q3, q4, q5⟩ := hx
  obtain ⟨sh, ty', k, hr, hoo, hsh, hcap⟩ := q5 (by simp [AHeap.gen, ho, AObj.gen])
  have hobj := R.obj r b sh hr
  simp only [RObj, ho] at hobj
  obtain ⟨cs, e, hb, hz, hcc, _⟩ := hobj
  have : cs.size = k := by
    rw [shape?_eq, hb] at hsh
    simp [oshape] at hsh
    exact hsh.2
  exact ⟨b, o, c, sh, cs, e, rfl, q1, q2, q3, hr, hoo, hb, by omega, hz, hcc⟩
theorem appendCells_ok (R : Rel ρ H w) {e : TypeId} {m n by_ : Nat} {zeros : Bool} {appended : Sem (Array Value)} {x : AV} {cx cy zv : Value} {new : List AV} (hs : szT P e = some m) (hb : bytesT P e = some by_) (hz : zeroT P e = some zv) (hzl : zv.cells.size = m)
    (hx : RV ρ H.gen w x cx) (happ : ∀ w', w' = w ∨ w' = w.drew → ∃ arr : Array Value, appended.run P w' = .ok arr w' ∧ RVs ρ H.gen w' new arr.toList)
    (h : appendCells e m by_ x n new H = some (v, H')) :
    ∃ base sLen sCap, cx = .slice base sLen sCap ∧ Ok P ρ H w (appTail e m zeros n appended base sLen sCap cx cy) v H' := by
  unfold appendCells at h
  split at h <;> first | (cases h; done) | skip
  rename_i hnew
  obtain ⟨hlen, hcell⟩ := hnew
  split at h
  · -- nil
    simp only [RV] at hx
    subst hx
    refine ⟨none, 0, 0, rfl, ?_⟩
    by_cases h0 : n = 0
    · subst h0
      simp only [if_true, Option.some.injEq, Prod.mk.injEq] at h
      obtain ⟨rfl, rfl⟩ := h
      obtain ⟨arr, ha, _⟩ := happ w (.inl rfl)
      refine OkP.ok ⟨.slice none 0 0, ?_, by simp only [RV]⟩ R
      simp [appTail, ha]
    · rw [if_neg h0] at h
      split at h <;> first | (cases h; done) | skip
      rename_i hcond
      simp only [Option.some.injEq, Prod.mk.injEq] at h
      obtain ⟨rfl, rfl⟩ := h
      obtain ⟨arr, ha, hr⟩ := happ w.drew (.inr rfl)
      obtain ⟨c, hc, hrun⟩ := run_grow (P := P) (w := w) (e := e) (m := m) (n := n) (by_ := by_) (sLen := 0) (sCap := 0) (zeros := zeros) (appended := appended) (base := none) (s := .slice none 0 0) (x := cy) (zv := zv) (old := #[]) (arr := arr) hb hz (by omega) (by omega) (by simpa using hcond.2) (by simp [Builtin.firstCells]) ha
      have hal := RVs_length hr
      rw [array_toList_length, hlen] at hal
      obtain ⟨ρ', q1, q2, q3⟩ := newSlice_ok (ty := e + tagB) (hX := Xct.grown) (e := e) (cells := new) (cs := #[] ++ arr ++ Builtin.zeroCells zv.cells (c - (0 + n))) (m := m) (len := n) (cap := n) (c := c) (ex := false) R.drew
        (by
          have : (#[] ++ arr ++ Builtin.zeroCells zv.cells (c - (0 + n))).toList.take new.length = arr.toList := by
            rw [hlen, ← hal]; simp
          rw [this]; exact hr) (by rw [hlen]; simp [hal]) (Nat.le_refl _) (by omega) (by simp) (by
          have h3 : (Builtin.zeroCells zv.cells (c - (0 + n))).size = (c - n) * m := by simp [Builtin.zeroCells, hzl]
          rw [Array.size_append, h3]
          simp only [Array.size_append, List.size_toArray, List.length_nil, hal]
          rw [Nat.zero_add, ← Nat.add_mul]
          have : n + (c - n) = c := by omega
          rw [this]; exact Nat.le_refl _)
      refine ⟨_, ρ', _, hrun, q1, ?_, (Ext.drew ρ H w).trans q3⟩
      simpa using q2
  · rename_i r g off esz len cap ex
    split at h <;> first | (cases h; done) | skip
    rename_i g' ty cells ho
    split at h <;> first | (cases h; done) | skip
    rename_i hcond
    obtain ⟨rfl, rfl, hle⟩ := hcond
    have hpl := sl_place R hx ho
    obtain ⟨b, o, c, sh, cs, e', hcx, q1, q2, q3, hr, hoo, hbk, hcs, hz', hcc⟩ := hpl
    subst hcx
    refine ⟨some ⟨b, o, none⟩, len, c, rfl, ?_⟩
    have hgen : H.gen r = g' := by simp [AHeap.gen, ho, AObj.gen]
    have hfirst : ∀ w', (w' = w ∨ w' = w.drew) → ∃ arr : Array Value, (Builtin.firstCells esz len (.slice (some ⟨b, o, none⟩) len c)).run P w' = .ok arr w' ∧ RVs ρ H.gen w' ((cells.drop off).take (len * esz)) arr.toList := by
      intro w' hw'
      have R' : Rel ρ H w' := by
        rcases hw' with rfl | rfl
        · exact R
        · exact R.drew
      have hx' : RV ρ H.gen w' (.sl r g' off esz len cap ex) (.slice (some ⟨b, o, none⟩) len c) := by
        rcases hw' with rfl | rfl
        · exact hx
        · exact R.keep (Ext.drew ρ H w) hx
      exact (firstCells_ok (P := P) (m := esz) R' hx' rfl (by simp [sliceCells, ho, hle]) (by simp; omega)).2
    by_cases h0 : n = 0
    · subst h0
      simp only [if_true, Option.some.injEq, Prod.mk.injEq] at h
      obtain ⟨rfl, rfl⟩ := h
      obtain ⟨arr, ha, hra⟩ := happ w (.inl rfl)
      have harr : arr.toList = [] := by
        have := RVs_length hra
        rw [hlen] at this
        simpa using this
      refine OkP.ok ⟨.slice (some ⟨b, o, none⟩) len c, ?_, hx⟩ R
      simp [appTail, ha, harr, storeCells, show len ≤ c by omega]
    · rw [if_neg h0] at h
      by_cases hin : len + n ≤ cap
      · rw [if_pos hin] at h
        split at h <;> first | (cases h; done) | skip
        rename_i hc2
        simp only [Option.some.injEq, Prod.mk.injEq] at h
        obtain ⟨rfl, rfl⟩ := h
        obtain ⟨arr, ha, hra⟩ := happ w (.inl rfl)
        have hal := RVs_length hra
        rw [hlen] at hal
        have hoff : o = sh + off := hoo (by omega)
        have hmul : (len + n) * esz = len * esz + n * esz := Nat.add_mul _ _ _
        have hst := run_storeCells (P := P) (o := o + len * esz) arr.toList w cs 0 hbk (by
          rw [hal]
          have : (len + n) * esz ≤ c * esz := Nat.mul_le_mul_right _ (by omega)
          omega) (oneCells_of hcell hra)
        have kX : Xct ty e' sh cs.size cells.length := by
          have hobj := R.obj r b sh hr
          simp only [RObj, ho] at hobj
          obtain ⟨cs2, e2, k1, _, _, k4⟩ := hobj
          rw [hbk] at k1
          cases k1
          exact k4
        have hput := put_blk (hX := by rw [setMany_size, setAt_length _ _ _ (by rw [hlen]; omega)]; exact kX) (ty' := ty) (cells' := setAt cells (off + len * esz) new) (cs' := setMany cs (o + len * esz) arr.toList) (g' := g') (sh' := sh) R hr hbk (setMany_size _ _ _) (by omega) (fun _ => rfl)
          (by rw [setAt_length _ _ _ (by rw [hlen]; omega)]; exact hz') (by
            intro i u hu
            rw [setAt_get _ _ _ (by rw [hlen]; omega)] at hu
            rw [setMany_get _ _ _ _ (by rw [hal]; omega), hal]
            by_cases hi : off + len * esz ≤ i ∧ i < off + len * esz + new.length
            · rw [if_pos hi] at hu
              rw [hlen] at hi
              rw [if_pos (by omega), show sh + i - (o + len * esz) = i - (off + len * esz) from by omega]
              exact RVs_get hra hu
            · rw [if_neg hi] at hu
              rw [hlen] at hi
              rw [if_neg (by omega)]
              exact RVc_array hbk hcc hu)
        refine ⟨.slice (some ⟨b, o, none⟩) (len + n) c, _, _, ?_, hput.1, ?_, hput.2⟩
        · simp only [appTail, if_pos (show len + n ≤ c by omega), Sem.run_bind, ha, Result.andThen_ok, add_plain]
          simp only [Nat.add_zero] at hst
          simp [hst]
        · simp only [RV]
          refine ⟨b, o, c, rfl, hin, q2, q3, ?_, fun _ => ⟨sh, e', cs.size, by simp [updρ], fun _ => hoff, ?_, hcs⟩⟩
          · rw [put_gen]; simp [AObj.gen]
          · rw [shape?_eq, setBlk_same (lt_of_heap hbk)]; simp [oshape, setMany_size]
      · rw [if_neg hin] at h
        split at h <;> first | (cases h; done) | skip
        rename_i hc2
        obtain ⟨hmost, hby⟩ := hc2
        have hmul : (len + n) * esz = len * esz + n * esz := Nat.add_mul _ _ _
        have hpre : ((cells.drop off).take (len * esz)).length = len * esz := by simp; omega
        -- the way that makes a new row
        have grow : ¬ len + n ≤ c → ∃ c' old arr, len + n ≤ c' ∧ (appTail e esz zeros n appended (some ⟨b, o, none⟩) len c (.slice (some ⟨b, o, none⟩) len c) cy).run P w =
            .ok (.slice (some ⟨w.heap.size, 0, none⟩) (len + n) c') (w.drew.alloc (.cells (old ++ arr ++ Builtin.zeroCells zv.cells (c' - (len + n))) e)) ∧ RVs ρ H.gen w.drew ((cells.drop off).take (len * esz)) old.toList ∧ RVs ρ H.gen w.drew new arr.toList := by
          intro hno
          obtain ⟨old, hold, hro⟩ := hfirst w.drew (.inr rfl)
          obtain ⟨arr, ha, hra⟩ := happ w.drew (.inr rfl)
          obtain ⟨c', hc', hrun⟩ := run_grow (P := P) (w := w) (e := e) (m := esz) (n := n) (by_ := by_) (sLen := len) (sCap := c) (zeros := zeros) (appended := appended) (base := some ⟨b, o, none⟩) (s := .slice (some ⟨b, o, none⟩) len c) (x := cy) (zv := zv) (old := old) (arr := arr) hb hz hno hmost hby hold ha
          exact ⟨c', old, arr, hc', hrun, hro, hra⟩
        have whole : ∀ (c' : Nat) (old arr : Array Value), len + n ≤ c' → RVs ρ H.gen w.drew ((cells.drop off).take (len * esz)) old.toList → RVs ρ H.gen w.drew new arr.toList →
            RVs ρ H.gen w.drew ((cells.drop off).take (len * esz) ++ new) ((old ++ arr ++ Builtin.zeroCells zv.cells (c' - (len + n))).toList.take ((cells.drop off).take (len * esz) ++ new).length) ∧
            ((cells.drop off).take (len * esz) ++ new).length ≤ (old ++ arr ++ Builtin.zeroCells zv.cells (c' - (len + n))).size ∧ c' * esz ≤ (old ++ arr ++ Builtin.zeroCells zv.cells (c' - (len + n))).size := by
          intro c' old arr hc' hro hra
          have l1 := RVs_length hro
          have l2 := RVs_length hra
          rw [hpre] at l1
          rw [hlen] at l2
          have h3 : (Builtin.zeroCells zv.cells (c' - (len + n))).size = (c' - (len + n)) * esz := by simp [Builtin.zeroCells, hzl]
          have hsz : (old ++ arr ++ Builtin.zeroCells zv.cells (c' - (len + n))).size = c' * esz := by
            rw [Array.size_append, Array.size_append, h3, ← array_toList_length old, ← array_toList_length arr, l1, l2, ← Nat.add_mul, ← Nat.add_mul]
            congr 1; omega
          refine ⟨?_, ?_, by rw [hsz]; exact Nat.le_refl _⟩
          · have : (old ++ arr ++ Builtin.zeroCells zv.cells (c' - (len + n))).toList.take ((cells.drop off).take (len * esz) ++ new).length = old.toList ++ arr.toList := by
              have hll : ((cells.drop off).take (len * esz) ++ new).length = (old.toList ++ arr.toList).length := by
                rw [List.length_append, List.length_append, l1, l2, hpre, hlen]
              rw [hll, Array.toList_append, Array.toList_append, List.take_left]
            rw [this]
            exact RVs_append hro hra
          · rw [hsz, List.length_append, hpre, hlen, ← hmul]
            exact Nat.mul_le_mul_right _ hc'
        by_cases hex : ex = true
        · rw [if_pos hex] at h
          simp only [Option.some.injEq, Prod.mk.injEq] at h
          obtain ⟨rfl, rfl⟩ := h
          obtain ⟨c', old, arr, hc', hrun, hro, hra⟩ := grow (by rw [q3 hex]; exact hin)
          obtain ⟨w1, w2, w3⟩ := whole c' old arr hc' hro hra
          obtain ⟨ρ', p1, p2, p3⟩ := newSlice_ok (ty := e + tagB) (hX := Xct.grown) (e := e) (m := esz) (len := len + n) (cap := len + n) (c := c') (ex := false) R.drew w1 w2 (Nat.le_refl _) hc' (by simp) w3
          refine ⟨_, ρ', _, hrun, p1, ?_, (Ext.drew ρ H w).trans p3⟩
          simpa using p2
        · rw [if_neg hex] at h
          split at h <;> first | (cases h; done) | skip
          simp only [Option.some.injEq, Prod.mk.injEq] at h
          obtain ⟨rfl, rfl⟩ := h
          by_cases hc : len + n ≤ c
          · -- in place
            obtain ⟨arr, ha, hra⟩ := happ w (.inl rfl)
            have hal := RVs_length hra
            rw [hlen] at hal
            have hoff : o = sh + off := hoo (by omega)
            have hmc : (len + n) * esz ≤ c * esz := Nat.mul_le_mul_right _ hc
            have hst := run_storeCells (P := P) (o := o + len * esz) arr.toList w cs 0 hbk (by rw [hal]; omega) (oneCells_of hcell hra)
            have kX : Xct ty e' sh cs.size cells.length := by
              have hobj := R.obj r b sh hr
              simp only [RObj, ho] at hobj
              obtain ⟨cs2, e2, k1, _, _, k4⟩ := hobj
              rw [hbk] at k1
              cases k1
              exact k4
            have hput := put_blk (hX := by rw [hoff]; exact grT_old (zeroT_lt hz) kX) (ty' := grT e ty off) (cells' := (cells.drop off).take (len * esz) ++ new) (cs' := setMany cs (o + len * esz) arr.toList) (g' := g' + 1) (sh' := o) R hr hbk (setMany_size _ _ _) (by omega) (fun hh => by omega)
              (by rw [List.length_append, hpre, hlen]; omega) (by
                intro i u hu
                rw [List.getElem?_append, hpre] at hu
                rw [setMany_get _ _ _ _ (by rw [hal]; omega), hal]
                by_cases hi : i < len * esz
                · rw [if_pos hi, List.getElem?_take, if_pos hi, List.getElem?_drop] at hu
                  rw [if_neg (by omega), hoff, Nat.add_assoc]
                  exact RVc_array hbk hcc hu
                · rw [if_neg hi] at hu
                  have hin' : i - len * esz < n * esz := by
                    rw [← hlen]
                    exact (List.getElem?_eq_some_iff.1 hu).1
                  rw [if_pos (by omega), show o + i - (o + len * esz) = i - len * esz from by omega]
                  exact RVs_get hra hu)
            refine ⟨.slice (some ⟨b, o, none⟩) (len + n) c, _, _, ?_, hput.1, ?_, hput.2⟩
            · simp only [appTail, if_pos hc, Sem.run_bind, ha, Result.andThen_ok, add_plain]
              simp only [Nat.add_zero] at hst
              simp [hst]
            · simp only [RV]
              refine ⟨b, o, c, rfl, Nat.le_refl _, hc, by simp, ?_, fun _ => ⟨o, e', cs.size, by simp [updρ], fun _ => rfl, ?_, hcs⟩⟩
              · rw [put_gen]; simp [AObj.gen]
              · rw [shape?_eq, setBlk_same (lt_of_heap hbk)]; simp [oshape, setMany_size]
          · -- a new row
            obtain ⟨c', old, arr, hc', hrun, hro, hra⟩ := grow hc
            obtain ⟨w1, w2, w3⟩ := whole c' old arr hc' hro hra
            have hmv := move_blk (hX := grT_new) (r := r) (g' := g' + 1) (ty := grT e ty off) (e := e) (cells := (cells.drop off).take (len * esz) ++ new) R.drew (R.lt hr) hr (by omega) w2 (by
              intro i u hu
              obtain ⟨cv, hcv, h1⟩ := RVs_get w1 hu
              rw [List.getElem?_take] at hcv
              split at hcv
              · exact ⟨cv, by rw [← Array.getElem?_toList]; exact hcv, h1⟩
              · cases hcv)
            refine ⟨_, _, _, hrun, hmv.1, ?_, (Ext.drew ρ H w).trans hmv.2⟩
            simp only [RV]
            refine ⟨w.heap.size, 0, c', rfl, Nat.le_refl _, hc', by simp, ?_, fun _ => ⟨0, e, _, by simp [updρ], fun _ => rfl, ?_, by rw [Nat.zero_add]; exact w3⟩⟩
            · rw [put_gen]; simp [AObj.gen]
            · rw [shape?_eq]
              have : (w.drew.alloc (.cells (old ++ arr ++ Builtin.zeroCells zv.cells (c' - (len + n))) e)).heap[w.heap.size]? = some (.cells (old ++ arr ++ Builtin.zeroCells zv.cells (c' - (len + n))) e) := alloc_heap w.drew _
              rw [this]; rfl
  · cases h
end

end Go.Proofs.YtjmldnpdfnklcaaDoor

namespace Go.Proofs.YtjmldnpdfnklcaaDoor

section
variable {P : Program} {ρ : Ren} {H H' : AHeap} {w : World} {v : AV}
theorem append_ok (R : Rel ρ H w) {t u ty : TypeId} {x y : AV} {cx cy : Value} (hx : RV ρ H.gen w x cx) (hy : RV ρ H.gen w y cy) (h : appendA P t u x y H = some (v, H')) : Ok P ρ H w (Builtin.append_ #[t, u] ty #[cx, cy]) v H' := by
  unfold appendA at h
  split at h <;> first | (cases h; done) | skip
  rename_i e d he hd
  split at h <;> first | (cases h; done) | skip
  rename_i m by_ z hs hb hz
  split at h <;> first | (cases h; done) | skip
  rename_i hzl
  obtain ⟨zv, hzv, rfl⟩ := zeroL_eq hz
  simp at hzl
  split at h
  · rename_i k
    split at h <;> first | (cases h; done) | skip
    rename_i k' n
    split at h <;> first | (cases h; done) | skip
    rename_i hcond
    obtain ⟨h0, h1, h2⟩ := hcond
    simp only [RV] at hy
    subst hy
    have happ : ∀ w', w' = w ∨ w' = w.drew → ∃ arr : Array Value, (if n.toNat * m = 0 then pure #[] else do pure (Builtin.zeroCells (← zeroValue e).cells n.toNat) : Sem (Array Value)).run P w' = .ok arr w' ∧ RVs ρ H.gen w' (zerosL (zv.cells.toList.map .s) n.toNat) arr.toList := by
      intro w' _
      by_cases h3 : n.toNat * m = 0
      · rw [if_pos h3]
        have : zerosL (zv.cells.toList.map .s) n.toNat = [] := List.eq_nil_of_length_eq_zero (by rw [zerosL_length]; simp [hzl, h3])
        exact ⟨#[], rfl, by rw [this]; exact RVs_nil⟩
      · rw [if_neg h3]
        exact ⟨Builtin.zeroCells zv.cells n.toNat, by simp [run_zeroValue hzv], RVs_zeros zv n.toNat⟩
    obtain ⟨base, sLen, sCap, rfl, hok⟩ := appendCells_ok (P := P) (zeros := true) (cy := .int k' n) R hs hb hzv hzl hx happ h
    obtain ⟨cv, ρ', w', p1, p2, p3, p4⟩ := hok
    exact ⟨cv, ρ', w', by rw [run_append_zeros (elemT_eq he) hs hb hd h0 h1 h2]; exact p1, p2, p3, p4⟩
  · rename_i hnd
    split at h <;> first | (cases h; done) | skip
    rename_i n new hn hnew
    have hnl : new.length = n * m := by
      unfold appendCells at h
      split at h
      · rename_i hc; exact hc.1
      · cases h
    have hl := (firstCells_ok (P := P) R hy hn hnew hnl).1
    have happ : ∀ w', w' = w ∨ w' = w.drew → ∃ arr : Array Value, (Builtin.firstCells m n cy).run P w' = .ok arr w' ∧ RVs ρ H.gen w' new arr.toList := by
      rintro w' (rfl | rfl)
      · exact (firstCells_ok (P := P) R hy hn hnew hnl).2
      · exact (firstCells_ok (P := P) R.drew (R.keep (Ext.drew ρ H w) hy) hn hnew hnl).2
    obtain ⟨base, sLen, sCap, rfl, hok⟩ := appendCells_ok (P := P) (zeros := false) (cy := cy) R hs hb hzv hzl hx happ h
    obtain ⟨cv, ρ', w', p1, p2, p3, p4⟩ := hok
    exact ⟨cv, ρ', w', by rw [run_append_tail (elemT_eq he) hs hd (fun k hk => hnd k hk) hl]; exact p1, p2, p3, p4⟩
theorem copy_ok (R : Rel ρ H w) {ts : Array TypeId} {t ty : TypeId} {x y : AV} {cx cy : Value} (ht : ts[0]? = some t) (hx : RV ρ H.gen w x cx) (hy : RV ρ H.gen w y cy) (h : copyA P t x y H = some (v, H')) : Ok P ρ H w (Builtin.copy_ ts ty #[cx, cy]) v H' := by
  have a0 : (#[cx, cy] : Array Value)[0]? = some cx := rfl
  have a1 : (#[cx, cy] : Array Value)[1]? = some cy := rfl
  unfold copyA at h
  split at h <;> first | (cases h; done) | skip
  rename_i e he
  split at h <;> first | (cases h; done) | skip
  rename_i m d n new hs hd hn hnew
  simp only at h
  split at h <;> first | (cases h; done) | skip
  rename_i hcond
  obtain ⟨hnl, hcell⟩ := hcond
  obtain ⟨hl, _⟩ := firstCells_ok (P := P) R hy hn hnew hnl
  -- the destination's length
  have hdst : ∀ {base : Option Addr} {dl dc : Nat}, cx = .slice base dl dc → dl = d := by
    intro base dl dc hcx
    subst hcx
    unfold sliceLen at hd
    split at hd <;> first | (cases hd; done) | skip
    · simp only [RV] at hx; obtain ⟨_, _, _, h1, _⟩ := hx; cases h1; cases hd; rfl
    · simp only [RV] at hx; obtain ⟨_, _, _, h1, _⟩ := hx; cases h1; cases hd; rfl
    · simp only [RV] at hx; cases hx; cases hd; rfl
    · simp only [RV] at hx; cases hx
  have first : ∃ arr : Array Value, (Builtin.firstCells m (min n d) cy).run P w = .ok arr w ∧ RVs ρ H.gen w (new.take (min n d * m)) arr.toList := by
    -- the first cells of the source
    unfold sliceLen at hn
    split at hn <;> first | (cases hn; done) | skip
    · rename_i r g off esz len cap ex
      simp only [Option.some.injEq] at hn
      subst hn
      simp only [sliceCells] at hnew
      split at hnew <;> first | (cases hnew; done) | skip
      rename_i g' ty' cells ho
      split at hnew <;> first | (cases hnew; done) | skip
      rename_i hc2
      obtain ⟨rfl, hle⟩ := hc2
      simp only [Option.some.injEq] at hnew
      subst hnew
      obtain ⟨b, o, c, sh, cs, e', rfl, q1, q2, q3, hr, hoo, hbk, hcs, hz', hcc⟩ := sl_place R hy ho
      have hlen : ((cells.drop off).take (len * esz)).length = len * esz := by simp; omega
      by_cases h0 : min len d * m = 0
      · refine ⟨#[], ?_, by rw [h0]; simp [RVs]⟩
        simp [Builtin.firstCells, h0, loadCells, loadCellsFrom]
      · have hpos : 0 < min len d := Nat.pos_of_ne_zero fun hh => h0 (by rw [hh, Nat.zero_mul])
        have ho' := hoo (by omega)
        have hcells : RVc ρ H.gen w (((cells.drop off).take (len * esz)).take (min len d * m)) b (sh + off) := RVc_take _ (RVc_take _ (RVc_drop _ hcc))
        obtain ⟨l, hl', h1⟩ := run_loadCells (P := P) hcells
        have hll : (((cells.drop off).take (len * esz)).take (min len d * m)).length = min len d * m := by
          rw [List.length_take, hnl]
          have : min len d * m ≤ len * m := Nat.mul_le_mul_right _ (Nat.min_le_left _ _)
          omega
        rw [hll] at hl'
        exact ⟨l.toArray, by simp only [Builtin.firstCells, ho']; exact hl', by simpa using h1⟩
    · rename_i n' esz cells
      simp only [Option.some.injEq] at hn
      subst hn
      simp only [sliceCells, Option.some.injEq] at hnew
      subst hnew
      simp only [RV] at hy
      obtain ⟨b, o, c, rfl, q1, q2, q3, q4, q5⟩ := hy
      obtain ⟨l, hl', h1⟩ := run_loadCells (P := P) (RVc_take (min n' d * m) q5)
      have hll : (cells.take (min n' d * m)).length = min n' d * m := by
        rw [List.length_take, hnl]
        have : min n' d * m ≤ n' * m := Nat.mul_le_mul_right _ (Nat.min_le_left _ _)
        omega
      rw [hll] at hl'
      exact ⟨l.toArray, by simp only [Builtin.firstCells]; exact hl', by simpa using h1⟩
    · simp only [RV] at hy
      subst hy
      simp only [sliceCells, Option.some.injEq] at hnew
      subst hnew
      exact ⟨#[], by simp [Builtin.firstCells], by simp [RVs]⟩
    · rename_i s
      simp only [Option.some.injEq] at hn
      subst hn
      simp only [RV] at hy
      subst hy
      simp only [sliceCells, Option.some.injEq] at hnew
      subst hnew
      refine ⟨((s.extract 0 (min s.size d)).data.map fun b => .int .u8 b.toNat), by simp [Builtin.firstCells], ?_⟩
      have hm : m = 1 ∨ s.size = 0 := by
        have h3 : s.data.toList.length = s.size := rfl
        rw [List.length_map, h3] at hnl
        rcases Nat.eq_zero_or_pos s.size with h | h
        · exact .inr h
        · left
          rcases m with _ | _ | m
          · rw [Nat.mul_zero] at hnl; omega
          · rfl
          · have : s.size * 2 ≤ s.size * (m + 1 + 1) := Nat.mul_le_mul_left _ (by omega)
            omega
      have h2 : ((s.data.toList.map fun b => AV.s (.int .u8 b.toNat)).take (min s.size d * m)) = (((s.extract 0 (min s.size d)).data.map fun b => Value.int .u8 b.toNat).toList).map .s := by
        rcases hm with rfl | h0
        · simp [ByteArray.data_extract, List.map_take]; rfl
        · have h3 : s.data.toList = [] := List.eq_nil_of_length_eq_zero h0
          have h4 : s.data = #[] := by simpa using h3
          simp [ByteArray.data_extract, h4]
      rw [h2]
      exact RVs_scalars _
  obtain ⟨arr, ha, hra⟩ := first
  by_cases hk : min n d = 0
  · rw [if_pos hk] at h
    split at h <;> first | (cases h; done) | skip
    rename_i hns
    simp only [Option.some.injEq, Prod.mk.injEq] at h
    obtain ⟨rfl, rfl⟩ := h
    have harr : arr.toList = [] := by
      have := RVs_length hra
      rw [hk, Nat.zero_mul] at this
      simpa using this
    obtain ⟨base, dl, dc, rfl⟩ : ∃ base dl dc, cx = .slice base dl dc := by
      unfold sliceLen at hd
      split at hd <;> first | (cases hd; done) | skip
      · simp only [RV] at hx; obtain ⟨_, _, _, rfl, _⟩ := hx; exact ⟨_, _, _, rfl⟩
      · simp only [RV] at hx; obtain ⟨_, _, _, rfl, _⟩ := hx; exact ⟨_, _, _, rfl⟩
      · simp only [RV] at hx; subst hx; exact ⟨_, _, _, rfl⟩
      · exact (hns _ rfl).elim
    obtain rfl := hdst rfl
    refine OkP.ok ⟨.int .i64 0, ?_, by simp only [RV]⟩ R
    have hmin : Nat.min n dl = min n dl := rfl
    simp only [Builtin.copy_, ht, a0, a1, Sem.run_bind, run_underlying (elemT_eq he), Result.andThen_ok, hl, run_sizeOf hs, hmin, ha]
    cases base with
    | none => simp [goInt, hk]
    | some a => simp [goInt, hk, harr, storeCells]
  · rw [if_neg hk] at h
    split at h <;> first | (cases h; done) | skip
    rename_i r g off esz len cap ex
    split at h <;> first | (cases h; done) | skip
    rename_i g' ty' cells ho
    split at h <;> first | (cases h; done) | skip
    rename_i hc2
    obtain ⟨rfl, rfl, hbase, hle⟩ := hc2
    simp only [Option.some.injEq, Prod.mk.injEq] at h
    obtain ⟨rfl, rfl⟩ := h
    obtain ⟨b, o, c, sh, cs, e', rfl, q1, q2, q3, hr, hoo, hbk, hcs, hz', hcc⟩ := sl_place R hx ho
    obtain rfl := hdst rfl
    have hgen : H.gen r = g' := by simp [AHeap.gen, ho, AObj.gen]
    have hoff : o = sh + off := hoo (by omega)
    have hal := RVs_length hra
    have htl : (new.take (min n len * esz)).length = min n len * esz := by
      rw [List.length_take, hnl]
      have : min n len * esz ≤ n * esz := Nat.mul_le_mul_right _ (Nat.min_le_left _ _)
      omega
    rw [htl] at hal
    have hml : min n len * esz ≤ len * esz := Nat.mul_le_mul_right _ (Nat.min_le_right _ _)
    have hlc : len * esz ≤ c * esz := Nat.mul_le_mul_right _ (by omega)
    have hcell' : (new.take (min n len * esz)).all AV.isCell = true := by
      rw [List.all_eq_true] at hcell ⊢
      intro a ha'
      exact hcell a (List.mem_of_mem_take ha')
    have hst := run_storeCells (P := P) (o := o) arr.toList w cs 0 hbk (by rw [hal]; omega) (oneCells_of hcell' hra)
    have kX : Xct ty' e' sh cs.size cells.length := by
      have hobj := R.obj r b sh hr
      simp only [RObj, ho] at hobj
      obtain ⟨cs2, e2, k1, _, _, k4⟩ := hobj
      rw [hbk] at k1
      cases k1
      exact k4
    have hput := put_blk (hX := by rw [setMany_size, setAt_length _ _ _ (by rw [htl]; omega)]; exact kX) (ty' := ty') (cells' := setAt cells off (new.take (min n len * esz))) (cs' := setMany cs o arr.toList) (g' := g') (sh' := sh) R hr hbk (setMany_size _ _ _) (by omega) (fun _ => rfl)
      (by rw [setAt_length _ _ _ (by rw [htl]; omega)]; exact hz') (by
        intro i u hu
        rw [setAt_get _ _ _ (by rw [htl]; omega), htl] at hu
        rw [setMany_get _ _ _ _ (by rw [hal]; omega), hal]
        by_cases hi : off ≤ i ∧ i < off + min n len * esz
        · rw [if_pos hi] at hu
          rw [if_pos (by omega), show sh + i - o = i - off from by omega]
          exact RVs_get hra hu
        · rw [if_neg hi] at hu
          rw [if_neg (by omega)]
          exact RVc_array hbk hcc hu)
    refine ⟨.int .i64 ((min n len : Nat) : Int), _, _, ?_, hput.1, by simp only [RV], hput.2⟩
    have hmin : Nat.min n len = min n len := rfl
    simp only [Nat.add_zero] at hst
    simp only [Builtin.copy_, ht, a0, a1, Sem.run_bind, run_underlying (elemT_eq he), Result.andThen_ok, hl, run_sizeOf hs, hmin, ha, hst, Sem.run_pure, goInt]
theorem clear_ok (R : Rel ρ H w) {t ty : TypeId} {x : AV} {cx : Value} (hx : RV ρ H.gen w x cx) (h : clearA P t x H = some (v, H')) : Ok P ρ H w (Builtin.clear_ #[t] ty #[cx]) v H' := by
  have a0 : (#[t] : Array TypeId)[0]? = some t := rfl
  have a1 : (#[cx] : Array Value)[0]? = some cx := rfl
  unfold clearA at h
  split at h <;> first | (cases h; done) | skip
  rename_i e he
  split at h <;> first | (cases h; done) | skip
  · rename_i m z r g off esz len cap ex hs hz
    obtain ⟨zv, hzv, rfl⟩ := zeroL_eq hz
    by_cases h0 : len = 0
    · subst h0
      simp only [if_true, Option.some.injEq, Prod.mk.injEq] at h
      obtain ⟨rfl, rfl⟩ := h
      simp only [RV] at hx
      obtain ⟨b, o, c, rfl, _⟩ := hx
      refine OkP.ok ⟨.tuple #[], ?_, by simp only [RV]; exact ⟨_, rfl, RVs_nil⟩⟩ R
      simp [Builtin.clear_, run_underlying (elemT_eq he)]
    · rw [if_neg h0] at h
      split at h <;> first | (cases h; done) | skip
      rename_i g' ty' cells ho
      split at h <;> first | (cases h; done) | skip
      rename_i hc2
      obtain ⟨rfl, rfl, hbase, hzl, hcell, hle⟩ := hc2
      simp only [Option.some.injEq, Prod.mk.injEq] at h
      obtain ⟨rfl, rfl⟩ := h
      simp at hzl
      obtain ⟨b, o, c, sh, cs, e', rfl, q1, q2, q3, hr, hoo, hbk, hcs, hz', hcc⟩ := sl_place R hx ho
      have hgen : H.gen r = g' := by simp [AHeap.gen, ho, AObj.gen]
      have hoff : o = sh + off := hoo (by omega)
      have hlc : len * esz ≤ c * esz := Nat.mul_le_mul_right _ (by omega)
      have hzr := RVs_zeros (ρ := ρ) (G := H.gen) (w := w) zv len
      have heq : ((Array.range (len * zv.cells.size)).map (zv.cells[· % zv.cells.size]!)) = Builtin.zeroCells zv.cells len := rfl
      rw [heq] at hzr
      have hzlen : (zerosL (zv.cells.toList.map .s) len).length = len * esz := by rw [zerosL_length]; simp [hzl]
      have hal := RVs_length hzr
      rw [hzlen] at hal
      have hcz : (zerosL (zv.cells.toList.map .s) len).all AV.isCell = true := by
        have key : ∀ n, (zerosL (zv.cells.toList.map .s) n).all AV.isCell = true := by
          intro n
          induction n with
          | zero => rfl
          | succ n ih => simp only [zerosL, List.all_append, ih, hcell, Bool.and_self]
        exact key len
      have hst := run_storeCells (P := P) (o := o) (Builtin.zeroCells zv.cells len).toList w cs 0 hbk (by rw [hal]; omega) (oneCells_of hcz hzr)
      have kX : Xct ty' e' sh cs.size cells.length := by
        have hobj := R.obj r b sh hr
        simp only [RObj, ho] at hobj
        obtain ⟨cs2, e2, k1, _, _, k4⟩ := hobj
        rw [hbk] at k1
        cases k1
        exact k4
      have hput := put_blk (hX := by rw [setMany_size, setAt_length _ _ _ (by rw [hzlen]; omega)]; exact kX) (ty' := ty') (cells' := setAt cells off (zerosL (zv.cells.toList.map .s) len)) (cs' := setMany cs o (Builtin.zeroCells zv.cells len).toList) (g' := g') (sh' := sh) R hr hbk (setMany_size _ _ _) (by omega) (fun _ => rfl)
        (by rw [setAt_length _ _ _ (by rw [hzlen]; omega)]; exact hz') (by
          intro i u hu
          rw [setAt_get _ _ _ (by rw [hzlen]; omega), hzlen] at hu
          rw [setMany_get _ _ _ _ (by rw [hal]; omega), hal]
          by_cases hi : off ≤ i ∧ i < off + len * esz
          · rw [if_pos hi] at hu
            rw [if_pos (by omega), show sh + i - o = i - off from by omega]
            exact RVs_get hzr hu
          · rw [if_neg hi] at hu
            rw [if_neg (by omega)]
            exact RVc_array hbk hcc hu)
      refine ⟨.tuple #[], _, _, ?_, hput.1, by simp only [RV]; exact ⟨_, rfl, RVs_nil⟩, hput.2⟩
      simp only [Nat.add_zero] at hst
      obtain ⟨len, rfl⟩ : ∃ k, len = k + 1 := ⟨len - 1, by omega⟩
      simp only [Builtin.clear_, a0, a1, Sem.run_bind, run_underlying (elemT_eq he), Result.andThen_ok, run_zeroValue hzv, hst, Sem.run_pure]
  · simp only [Option.some.injEq, Prod.mk.injEq] at h
    obtain ⟨rfl, rfl⟩ := h
    simp only [RV] at hx
    subst hx
    refine OkP.ok ⟨.tuple #[], ?_, by simp only [RV]; exact ⟨_, rfl, RVs_nil⟩⟩ R
    simp [Builtin.clear_, run_underlying (elemT_eq he)]
end

end Go.Proofs.YtjmldnpdfnklcaaDoor

namespace Go.Proofs.YtjmldnpdfnklcaaDoor

section
variable {P : Program} {ρ : Ren} {H H' : AHeap} {w : World} {v : AV}
theorem byteList_of {G : Nat → Nat} : ∀ (xs : List AV) (l : List Value) (ns : List Int), RVs ρ G w xs l → byteList xs = some ns → l = ns.map (Value.int .u8)
  | [], l, ns, h, hn => by
    simp only [RVs] at h; subst h
    simp only [byteList, Option.some.injEq] at hn; subst hn; rfl
  | x :: xs, l, ns, h, hn => by
    obtain ⟨y, ys, rfl, h1, h2⟩ := (by simpa only [RVs] using h)
    simp only [byteList] at hn
    split at hn <;> first | (cases hn; done) | skip
    split at hn <;> first | (cases hn; done) | skip
    rename_i l' hl'
    simp only [Option.some.injEq] at hn; subst hn
    simp only [RV] at h1; subst h1
    rw [byteList_of xs ys l' h2 hl']; rfl
theorem str_ok (R : Rel ρ H w) {x : AV} {cx : Value} {s : ByteArray} (hx : RV ρ H.gen w x cx) (h : strO x ((watchV x).map H.get) = some s) : (Conv.bytesToString cx).run P w = .ok (.string s) w ∧ ∃ a l c, cx = .slice a l c := by
  unfold strO at h
  split at h <;> first | (cases h; done) | skip
  · rename_i r g off esz len cap ex
    split at h <;> first | (cases h; done) | skip
    rename_i h1
    subst h1
    split at h <;> first | (cases h; done) | skip
    rename_i g' ty cells ho
    simp only [watchV, Option.map_some, Option.some.injEq] at ho
    split at h <;> first | (cases h; done) | skip
    rename_i hcond
    obtain ⟨rfl, hle⟩ := hcond
    cases hb : byteList ((cells.drop off).take (len * 1)) with
    | none => rw [hb] at h; cases h
    | some ns =>
      simp only [hb, Option.map_some, Option.some.injEq] at h
      subst h
      have hc : sliceCells H (.sl r g' off 1 len cap ex) = some ((cells.drop off).take (len * 1)) := by simp only [sliceCells, ho]; rw [if_pos ⟨trivial, hle⟩]
      have hlen : ((cells.drop off).take (len * 1)).length = len * 1 := by simp; omega
      obtain ⟨_, arr, ha, hra⟩ := firstCells_ok (P := P) (m := 1) R hx rfl hc hlen
      have harr := byteList_of _ _ ns hra hb
      simp only [RV] at hx
      obtain ⟨b, o, c, rfl, _⟩ := hx
      have hl : (loadCells ⟨b, o, none⟩ len).run P w = .ok (ns.map (Value.int .u8)).toArray w := by
        simp only [Builtin.firstCells, Nat.mul_one] at ha
        rw [ha, ← harr]
      exact ⟨run_bytesToString w ⟨b, o, none⟩ len c ns hl, _, _, _, rfl⟩
  · rename_i n esz cells
    split at h <;> first | (cases h; done) | skip
    rename_i h1
    subst h1
    cases hb : byteList cells with
    | none => simp [hb] at h
    | some ns =>
      simp only [hb, Option.map_some, Option.some.injEq] at h
      subst h
      have hx' := hx
      simp only [RV] at hx
      obtain ⟨b, o, c, rfl, q1, q2, _⟩ := hx
      obtain ⟨_, arr, ha, hra⟩ := firstCells_ok (P := P) (m := 1) R hx' rfl rfl q2
      have harr := byteList_of _ _ ns hra hb
      have hl : (loadCells ⟨b, o, none⟩ n).run P w = .ok (ns.map (Value.int .u8)).toArray w := by
        simp only [Builtin.firstCells, Nat.mul_one] at ha
        rw [ha, ← harr]
      exact ⟨run_bytesToString w ⟨b, o, none⟩ n c ns hl, _, _, _, rfl⟩
  · simp only [Option.some.injEq] at h
    subst h
    simp only [RV] at hx
    subst hx
    exact ⟨by simp [Conv.bytesToString], _, _, _, rfl⟩
theorem bytesT?_eq {src dst : TypeId} (h : bytesT? P src dst = true) : ∃ e, P.underlying src = some (.slice e) ∧ P.underlying dst = some .string ∧ P.underlying e = some (.int .u8) := by
  unfold bytesT? at h
  split at h <;> first | (cases h; done) | skip
  rename_i e hs hd
  split at h <;> first | (cases h; done) | skip
  rename_i he
  exact ⟨e, hs, hd, he⟩
theorem convert_ok (R : Rel ρ H w) {src dst : TypeId} {x : AV} {cx : Value} (hx : RV ρ H.gen w x cx) (h : convertA P src dst x H = some (v, H')) : H' = H ∧ OkP P ρ H.gen w (convert src dst cx) v := by
  obtain ⟨h', hh⟩ := lookB_eq h
  clear h
  subst hh
  have h := h'
  clear h'
  refine ⟨rfl, ?_⟩
  unfold convertO at h
  split at h
  · rename_i hb
    obtain ⟨e, hs, hd, he⟩ := bytesT?_eq hb
    cases hst : strO x ((watchV x).map H'.get) with
    | none => simp [hst] at h
    | some s =>
      simp only [hst, Option.map_some, Option.some.injEq] at h
      subst h
      obtain ⟨hrun, a, l, c, rfl⟩ := str_ok (P := P) R hx hst
      exact ⟨.string s, by rw [run_convert_bytes_string w src dst e _ _ _ hs he hd]; exact hrun, by simp only [RV]⟩
  · split at h <;> first | (cases h; done) | skip
    rename_i u hu
    rw [val_of x cx u hx hu]
    cases hp : pureRun P (convert src dst u) with
    | none => simp [hp] at h
    | some r =>
      simp only [hp, Option.map_some, Option.some.injEq] at h
      subst h
      exact ⟨r, pureRun_run hp w, by simp only [RV]⟩
theorem nilCheck_run {G : Nat → Nat} {x : AV} {cx : Value} (hx : RV ρ G w x cx) (h : nilCheckA x = some v) : v = x ∧ (match cx with
    | .pointer none | .nilIface | .nilFunc => (runtimePanic .nilDeref : Sem Next)
    | .func (.method name) first captured =>
      match (first[0]? : Option Value) with
      | some .nilIface => runtimePanic .nilDeref
      | some (.iface t w) => do
        if (← nilAhead ((← program).types.size + Made.depth) t w name) != some false then
          unsupported (.noEntry "op/nilCheck.the method's receiver behind this interface value is a nil pointer, or cannot be seen to be none, and the arguments act or may panic (ledger 612)")
        pure (.value (.func (.method name) first captured))
      | _ => pure (.value (.func (.method name) first captured))
    | x => pure (.value x)).run P w = .ok (.value cx) w := by
  unfold nilCheckA at h
  split at h <;> first | (cases h; done) | skip
  all_goals
    simp only [Option.some.injEq] at h
    subst h
    refine ⟨rfl, ?_⟩
    simp only [RV] at hx
  · obtain ⟨a, rfl, _⟩ := hx; rfl
  · obtain ⟨b, o, rfl, _⟩ := hx; rfl
  · obtain ⟨a, c, rfl, _⟩ := hx; rfl
  · subst hx; rfl
end

end Go.Proofs.YtjmldnpdfnklcaaDoor

namespace Go.Proofs.YtjmldnpdfnklcaaDoor

/-- What a table of functions answers, the program answers. -/
def Sound (P : Program) (C : Callee) : Prop :=
  ∀ f args H v H', C f args H = some (v, H') → ∀ (ρ : Ren) (w : World) (cargs : Array Value), Rel ρ H w → RVs ρ H.gen w args cargs.toList →
    Calls P f cargs w fun e w' => ∃ cv ρ', e = .returned cv ∧ Rel ρ' H' w' ∧ RV ρ' H'.gen w' v cv ∧ Ext ρ H w ρ' H' w'
section
variable {P : Program} {ρ : Ren} {H H' : AHeap} {w : World} {v : AV}
theorem wp_value {o : Oper} {a : Act} {K : Act → World → Prop} {Q : Exit → Act → World → Prop} {s : Sem Value} {cv : Value} {w' : World} (he : execOp a.eval o = (do pure (.value (← s)))) (hr : s.run P w = .ok cv w') (hk : K (a.put o.dst cv) w') :
    o.wp P a w K Q := by
  unfold Oper.wp
  rw [he, Sem.run_bind, hr]
  exact hk
theorem wp_unit {o : Oper} {a : Act} {K : Act → World → Prop} {Q : Exit → Act → World → Prop} {s : Sem Unit} {w' : World} (he : execOp a.eval o = (do s; pure .skip)) (hr : s.run P w = .ok () w') (hk : K (a.put o.dst undef) w') :
    o.wp P a w K Q := by
  unfold Oper.wp
  rw [he, Sem.run_bind, hr]
  exact hk
theorem wp_next {o : Oper} {a : Act} {K : Act → World → Prop} {Q : Exit → Act → World → Prop} {s : Sem Next} {cv : Value} {w' : World} (he : execOp a.eval o = s) (hr : s.run P w = .ok (.value cv) w') (hk : K (a.put o.dst cv) w') :
    o.wp P a w K Q := by
  unfold Oper.wp
  rw [he, hr]
  exact hk
theorem RV_undef {G : Nat → Nat} : RV ρ G w undefA undef := by
  unfold undefA undef
  simp only [RV]
  exact ⟨_, rfl, RVs_nil⟩
theorem RVs_map {G : Nat → Nat} {t : Tmps} {a : Act} : ∀ (xs : List Operand), (∀ x ∈ xs, RV ρ G w (evalA t x) (a.eval x)) → RVs ρ G w (xs.map (evalA t)) (xs.map a.eval)
  | [], _ => RVs_nil
  | x :: xs, h => RVs_cons (h x (by simp)) (RVs_map xs fun y hy => h y (by simp [hy]))
theorem optRV_map {G : Nat → Nat} {t : Tmps} {a : Act} {x : Option Operand} (h : ∀ y ∈ x.toArray, RV ρ G w (evalA t y) (a.eval y)) : optRV ρ G w (x.map (evalA t)) (x.map a.eval) := by
  cases x with
  | none => trivial
  | some y => exact h y (by simp)
theorem run_callFunc {f : FuncId} {args : Array Value} (h : enterable P f = true) : (callFunc f args).run P w = .ok (.enter f args) w := by
  unfold enterable at h
  cases hf : P.funcs[f]? with
  | none => simp [hf] at h
  | some fn =>
    simp only [hf, Bool.and_eq_true, Bool.not_eq_true'] at h
    have hb : fn.body.isNone = false := by
      cases hbd : fn.body with
      | none => simp [hbd] at h
      | some b => rfl
    simp only [callFunc, Sem.run_bind, run_program, Result.andThen_ok, hf, h.1, Bool.false_eq_true, if_false, hb, Sem.run_pure]
/-- A call of a function's value. -/
theorem call_wp {C : Callee} (hC : Sound P C) {o : Oper} {c : Call} {f : Operand} (hop : o.op = .call c) (hcal : c.callee = .value f) {a : Act} {K : Act → World → Prop} {Q : Exit → Act → World → Prop} {x : AV} {args : List AV} (R : Rel ρ H w)
    (hf : RV ρ H.gen w x (a.eval f)) (hargs : RVs ρ H.gen w args (c.args.map a.eval).toList) (h : callA P C x args H = some (v, H'))
    (hK : ∀ cv ρ' w', Rel ρ' H' w' → RV ρ' H'.gen w' v cv → Ext ρ H w ρ' H' w' → K (a.put o.dst cv) w') : o.wp P a w K Q := by
  have key : ∀ (fid : FuncId) (first captured : Array Value) (xs : List AV), a.eval f = .func (.func fid) first captured → enterable P fid = true → C fid xs H = some (v, H') → RVs ρ H.gen w xs (first ++ c.args.map a.eval ++ captured).toList → o.wp P a w K Q := by
    intro fid first captured xs hev hen hc hxs
    have hrun : (execOp a.eval o).run P w = .ok (.enter fid (first ++ c.args.map a.eval ++ captured)) w := by
      unfold execOp
      rw [hop]
      simp only [resolve, hcal, hev, Deferred.ofValue, Sem.run_bind, Sem.run_pure, Result.andThen_ok, invoke]
      exact run_callFunc hen
    unfold Oper.wp
    rw [hrun]
    refine (hC fid xs H v H' hc ρ w _ R hxs).mono fun e w' he => ?_
    obtain ⟨cv, ρ', rfl, h1, h2, h3⟩ := he
    exact hK cv ρ' w' h1 h2 h3
  unfold callA at h
  split at h <;> first | (cases h; done) | skip
  · rename_i fid first captured
    split at h <;> first | (cases h; done) | skip
    rename_i hen
    simp only [RV] at hf
    obtain ⟨fa, ca, hev, h1, h2⟩ := hf
    refine key fid fa ca _ hev hen h ?_
    rw [Array.toList_append, Array.toList_append]
    exact RVs_append (RVs_append h1 hargs) h2
  · rename_i fid first captured
    split at h <;> first | (cases h; done) | skip
    rename_i hen
    simp only [RV] at hf
    refine key fid first captured _ hf hen h ?_
    rw [Array.toList_append, Array.toList_append]
    exact RVs_append (RVs_append (RVs_scalars _) hargs) (RVs_scalars _)
theorem liftO_eq {α : Type} {x : Option α} {u : α} (h : liftO x H = some (u, H')) : x = some u ∧ H' = H := by
  unfold liftO at h
  cases x with
  | none => cases h
  | some y => simp only [Option.map_some, Option.some.injEq, Prod.mk.injEq] at h; exact ⟨by rw [h.1], h.2.symm⟩
theorem builtin_ok (R : Rel ρ H w) {b : Builtin} {ts : Array TypeId} {ty : TypeId} {consts : Array Bool} {args : List AV} {cargs : Array Value} (hargs : RVs ρ H.gen w args cargs.toList) (h : builtinA P b ts ty args H = some (v, H')) :
    ∃ s : Sem Value, builtin b ts ty consts cargs = (do pure (.value (← s))) ∧ Ok P ρ H w s v H' := by
  have two : ∀ {x y : AV}, args = [x, y] → ∃ cx cy, cargs = #[cx, cy] ∧ RV ρ H.gen w x cx ∧ RV ρ H.gen w y cy := by
    intro x y hxy
    subst hxy
    obtain ⟨cx, l, e, h1, h2⟩ := (by simpa only [RVs] using hargs)
    obtain ⟨cy, l', e', h3, h4⟩ := (by simpa only [RVs] using h2)
    subst e' h4
    exact ⟨cx, cy, Array.toList_inj.1 (by simpa using e), h1, h3⟩
  have one : ∀ {x : AV}, args = [x] → ∃ cx, cargs = #[cx] ∧ RV ρ H.gen w x cx := by
    intro x hxy
    subst hxy
    obtain ⟨cx, l, e, h1, h2⟩ := (by simpa only [RVs] using hargs)
    subst h2
    exact ⟨cx, Array.toList_inj.1 (by simpa using e), h1⟩
  have tys : ∀ {l : List TypeId}, ts.toList = l → ts = l.toArray := fun h => by rw [← h]
  unfold builtinA at h
  split at h
  · rename_i t u x y hts
    obtain ⟨cx, cy, rfl, h1, h2⟩ := two rfl
    rw [tys hts]
    exact ⟨_, rfl, append_ok R h1 h2 h⟩
  · rename_i t x hts
    obtain ⟨cx, rfl, h1⟩ := one rfl
    rw [tys hts]
    obtain ⟨rfl, h2⟩ := len_ok (ty := ty) R h1 h
    exact ⟨_, rfl, h2.ok R⟩
  · rename_i t x hts
    obtain ⟨cx, rfl, h1⟩ := one rfl
    rw [tys hts]
    unfold liftO at h
    cases hc : capA P t x with
    | none => simp [hc] at h
    | some u =>
      simp only [hc, Option.map_some, Option.some.injEq, Prod.mk.injEq] at h
      obtain ⟨rfl, rfl⟩ := h
      exact ⟨_, rfl, (cap_ok (ty := ty) h1 hc).ok R⟩
  · rename_i t ts' x y hts
    obtain ⟨cx, cy, rfl, h1, h2⟩ := two rfl
    exact ⟨_, rfl, copy_ok R (by rw [tys hts]; rfl) h1 h2 h⟩
  · rename_i t x hts
    obtain ⟨cx, rfl, h1⟩ := one rfl
    rw [tys hts]
    exact ⟨_, rfl, clear_ok R h1 h⟩
  · rename_i t ts' x y hts
    obtain ⟨cx, cy, rfl, h1, h2⟩ := two rfl
    exact ⟨_, rfl, delete_ok R (by rw [tys hts]; rfl) h1 h2 h⟩
  · obtain ⟨hc, rfl⟩ := liftO_eq h
    have := minMax_ok hargs hc
    simp only [if_true] at this
    exact ⟨_, rfl, this.ok R⟩
  · obtain ⟨hc, rfl⟩ := liftO_eq h
    have := minMax_ok hargs hc
    simp only [Bool.false_eq_true, if_false] at this
    exact ⟨_, rfl, this.ok R⟩
  · cases h
theorem parts_ok {G : Nat → Nat} {t : Tmps} {a : Act} (ps : Array (Nat × Operand)) (h : ∀ x ∈ (ps.toList.map (·.2)).toArray, RV ρ G w (evalA t x) (a.eval x)) :
    (ps.toList.map fun p => (p.1, evalA t p.2)).map (·.1) = ((ps.map fun (i, x) => (i, a.eval x)).toList).map (·.1) ∧ RVs ρ G w ((ps.toList.map fun p => (p.1, evalA t p.2)).map (·.2)) (((ps.map fun (i, x) => (i, a.eval x)).toList).map (·.2)) := by
  refine ⟨by simp [Function.comp_def], ?_⟩
  have h1 : (ps.toList.map fun p => (p.1, evalA t p.2)).map (·.2) = (ps.toList.map (·.2)).map (evalA t) := by simp [Function.comp_def]
  have h2 : ((ps.map fun (i, x) => (i, a.eval x)).toList).map (·.2) = (ps.toList.map (·.2)).map a.eval := by simp [Function.comp_def]
  rw [h1, h2]
  exact RVs_map _ fun x hx => h x (by simpa using hx)
theorem op_sound {C : Callee} (hC : Sound P C) {t : Tmps} {o : Oper} (h : opA P C t o H = some (v, H')) (R : Rel ρ H w) {a : Act} (hop : ∀ x ∈ o.op.operands, RV ρ H.gen w (evalA t x) (a.eval x)) {K : Act → World → Prop} {Q : Exit → Act → World → Prop}
    (hK : ∀ cv ρ' w', Rel ρ' H' w' → RV ρ' H'.gen w' v cv → Ext ρ H w ρ' H' w' → K (a.put o.dst cv) w') : o.wp P a w K Q := by
  obtain ⟨dst, op, type, pos, after, guard⟩ := o
  simp only at hop hK
  have viaOk : ∀ {s : Sem Value}, execOp a.eval ⟨dst, op, type, pos, after, guard⟩ = (do pure (.value (← s))) → Ok P ρ H w s v H' → (⟨dst, op, type, pos, after, guard⟩ : Oper).wp P a w K Q := by
    intro s he hok
    obtain ⟨cv, ρ', w', h1, h2, h3, h4⟩ := hok
    exact wp_value he h1 (hK cv ρ' w' h2 h3 h4)
  have viaP : ∀ {s : Sem Value}, execOp a.eval ⟨dst, op, type, pos, after, guard⟩ = (do pure (.value (← s))) → H' = H → OkP P ρ H.gen w s v → (⟨dst, op, type, pos, after, guard⟩ : Oper).wp P a w K Q := by
    intro s he hh hok
    subst hh
    exact viaOk he (hok.ok R)
  have viaU : ∀ {s : Sem Unit}, execOp a.eval ⟨dst, op, type, pos, after, guard⟩ = (do s; pure .skip) → (v = undefA ∧ ∃ ρ' w', s.run P w = .ok () w' ∧ Rel ρ' H' w' ∧ Ext ρ H w ρ' H' w') → (⟨dst, op, type, pos, after, guard⟩ : Oper).wp P a w K Q := by
    intro s he hok
    obtain ⟨rfl, ρ', w', h1, h2, h3⟩ := hok
    exact wp_unit he h1 (hK undef ρ' w' h2 RV_undef h3)
  have viaL : ∀ {s : Sem Value} {x : Option AV}, execOp a.eval ⟨dst, op, type, pos, after, guard⟩ = (do pure (.value (← s))) → liftO x H = some (v, H') → (x = some v → OkP P ρ H.gen w s v) → (⟨dst, op, type, pos, after, guard⟩ : Oper).wp P a w K Q := by
    intro s x he hl hok
    obtain ⟨h1, h2⟩ := liftO_eq hl
    exact viaP he h2 (hok h1)
  have i1 : ∀ {x : Operand}, op.operands = #[x] → RV ρ H.gen w (evalA t x) (a.eval x) := fun he => hop _ (by rw [he]; simp)
  have i2 : ∀ {x y : Operand}, op.operands = #[x, y] → RV ρ H.gen w (evalA t x) (a.eval x) ∧ RV ρ H.gen w (evalA t y) (a.eval y) := fun he => ⟨hop _ (by rw [he]; simp), hop _ (by rw [he]; simp)⟩
  have i3 : ∀ {x y z : Operand}, op.operands = #[x, y, z] → RV ρ H.gen w (evalA t x) (a.eval x) ∧ RV ρ H.gen w (evalA t y) (a.eval y) ∧ RV ρ H.gen w (evalA t z) (a.eval z) := fun he => ⟨hop _ (by rw [he]; simp), hop _ (by rw [he]; simp), hop _ (by rw [he]; simp)⟩
  cases op with
  | move x =>
    refine viaL (s := pure (a.eval x)) rfl h fun hx => ?_
    cases hx
    exact ⟨_, rfl, i1 rfl⟩
  | assign x =>
    refine viaL (s := pure (a.eval x)) rfl h fun hx => ?_
    cases hx
    exact ⟨_, rfl, i1 rfl⟩
  | pick c x y =>
    obtain ⟨h1, h2, h3⟩ := i3 rfl
    refine viaL (s := do pure (if ← asBool (a.eval c) then a.eval x else a.eval y)) ?_ h fun hx => pick_ok h1 h2 h3 hx
    simp [execOp]
  | alloc e => exact viaOk rfl (alloc_ok R h)
  | box e x => exact viaOk rfl (box_ok R (i1 rfl) h)
  | build ty ps =>
    obtain ⟨h1, h2⟩ := parts_ok (ρ := ρ) (w := w) (G := H.gen) (t := t) (a := a) ps hop
    exact viaL rfl h fun hx => build_ok h1 h2 hx
  | buildSlice ty n ps =>
    obtain ⟨h1, h2⟩ := parts_ok (ρ := ρ) (w := w) (G := H.gen) (t := t) (a := a) ps hop
    exact viaOk rfl (buildSlice_ok R h1 h2 h)
  | load ty x =>
    obtain ⟨h1, h2⟩ := load_ok R (i1 rfl) h
    exact viaP rfl h1 h2
  | store ty x y =>
    obtain ⟨h1, h2⟩ := i2 rfl
    exact viaU rfl (store_ok R h1 h2 h)
  | nilCheck x =>
    obtain ⟨h1, h2⟩ := liftO_eq h
    subst h2
    obtain ⟨rfl, h3⟩ := nilCheck_run (P := P) (i1 rfl) h1
    exact wp_next rfl h3 (hK _ ρ w R (i1 rfl) (Ext.refl _ _ _))
  | binOp b ty x y ty' =>
    obtain ⟨h1, h2⟩ := i2 rfl
    exact viaL rfl h fun hx => binE_ok h1 h2 (fun hn => by rw [isNilC_eq hn]; rfl) hx
  | unOp b ty x => exact viaL rfl h fun hx => un_ok (i1 rfl) hx
  | convert src dst x =>
    obtain ⟨h1, h2⟩ := convert_ok R (i1 rfl) h
    exact viaP rfl h1 h2
  | makeFunc f fs cs =>
    refine viaL (s := Instr.makeFunc f (fs.map a.eval) (cs.map a.eval)) rfl h fun hx => ?_
    cases hx
    refine ⟨_, rfl, ?_⟩
    simp only [RV]
    refine ⟨_, _, rfl, ?_, ?_⟩
    · rw [Array.toList_map]
      exact RVs_map _ fun x hx => hop x (by simp [Op.operands]; exact .inl (by simpa using hx))
    · rw [Array.toList_map]
      exact RVs_map _ fun x hx => hop x (by simp [Op.operands]; exact .inr (by simpa using hx))
  | makeMap ty r =>
    cases r with
    | none => exact viaOk rfl (makeMap_ok R h)
    | some r => cases h
  | makeSlice ty l c =>
    obtain ⟨h1, h2⟩ := i2 rfl
    exact viaOk rfl (makeSlice_ok R h1 h2 h)
  | slice ty x lo hi mx =>
    have hx0 : RV ρ H.gen w (evalA t x) (a.eval x) := hop x (by simp [Op.operands])
    have hlo : optRV ρ H.gen w (lo.map (evalA t)) (lo.map a.eval) := optRV_map fun y hy => hop y (by simp [Op.operands] at hy ⊢; simp [hy])
    have hhi : optRV ρ H.gen w (hi.map (evalA t)) (hi.map a.eval) := optRV_map fun y hy => hop y (by simp [Op.operands] at hy ⊢; simp [hy])
    have hmx : optRV ρ H.gen w (mx.map (evalA t)) (mx.map a.eval) := optRV_map fun y hy => hop y (by simp [Op.operands] at hy ⊢; simp [hy])
    exact viaL rfl h fun hh => slice_ok hx0 hlo hhi hmx hh
  | fieldAddr ty x i => exact viaL rfl h fun hx => fieldAddr_ok (i1 rfl) hx
  | field ty x i => exact viaL rfl h fun hx => field_ok (i1 rfl) hx
  | indexAddr ty x i =>
    obtain ⟨h1, h2⟩ := i2 rfl
    obtain ⟨h3, h4⟩ := indexAddr_ok R h1 h2 h
    exact viaP rfl h3 h4
  | index ty x i =>
    obtain ⟨h1, h2⟩ := i2 rfl
    exact viaL rfl h fun hx => index_ok h1 h2 hx
  | lookup ty x i ok =>
    obtain ⟨h1, h2⟩ := i2 rfl
    obtain ⟨h3, h4⟩ := lookup_ok R h1 h2 h
    exact viaP rfl h3 h4
  | mapUpdate ty m k x =>
    obtain ⟨h1, h2, h3⟩ := i3 rfl
    exact viaU rfl (mapUpdate_ok R h1 h2 h3 h)
  | extract x i => exact viaL rfl h fun hx => extract_ok (i1 rfl) hx
  | call c =>
    simp only [opA, callOpA] at h
    split at h
    · rename_i f hcal
      have hargs : RVs ρ H.gen w (c.args.toList.map (evalA t)) (c.args.map a.eval).toList := by
        rw [Array.toList_map]
        exact RVs_map _ fun x hx => hop x (by simp [Op.operands, Call.operands, hcal]; exact .inr (by simpa using hx))
      exact call_wp hC rfl hcal R (hop f (by simp [Op.operands, Call.operands, hcal])) hargs h hK
    · rename_i b hcal
      have hargs : RVs ρ H.gen w (c.args.toList.map (evalA t)) (c.args.map a.eval).toList := by
        rw [Array.toList_map]
        exact RVs_map _ fun x hx => hop x (by simp [Op.operands, Call.operands, hcal]; simpa using hx)
      obtain ⟨s, h1, h2⟩ := builtin_ok (P := P) (consts := c.args.map fun | .const _ => true | _ => false) R hargs h
      refine viaOk (s := s) ?_ h2
      rw [← h1]
      simp only [execOp, resolve, hcal]
      rfl
    · cases h
  | _ => cases h
end

end Go.Proofs.YtjmldnpdfnklcaaDoor

