/-
  A part of the walk of the seat: laws of a small proof system, and contracts of functions, each proved. Conditions: as each theorem says.
-/
import Derived.Test.YtfhhggcdmgjbcaaSxNav
namespace Go.Proofs.Ytfhhggcdmgjbcaa.Sx
open Go Go.RowKit

structure V8 where
  a0 : Int
  a1 : Int
  a2 : Int
  a3 : Int
  a4 : Int
  a5 : Int
  a6 : Int
  a7 : Int
  deriving DecidableEq
def V8.zero : V8 := ⟨0, 0, 0, 0, 0, 0, 0, 0⟩

structure Entry where
  name : ByteArray
  node : Int
  cookie : Int
  deriving DecidableEq

/-- where a node's bytes and its entries lie -/
structure Loc where
  dA : Option Addr
  dCap : Nat
  lA : Option Addr
  lCap : Nat
def Loc.zero : Loc := ⟨none, 0, none, 0⟩

/-- a node -/
structure Node where
  kind : Int
  gen : Int
  mode : Int
  user : Int
  group : Int
  links : Int
  rs : Int
  rn : Int
  ws : Int
  wn : Int
  ts : Int
  tn : Int
  data : List Int
  verf : V8
  target : ByteArray
  list : List Entry
  parent : Int
  next : Int
  deriving DecidableEq

def Node.zero : Node := ⟨0, 0, 0, 0, 0, 0, 0, 0, 0, 0, 0, 0, [], V8.zero, ByteArray.empty, [], 0, 0⟩

def Entry.zero : Entry := ⟨ByteArray.empty, 0, 0⟩

def Node.cells (n : Node) (a : Loc) : Array Value :=
  #[.int .u32 n.kind, .int .u32 n.gen, .int .u32 n.mode, .int .u32 n.user, .int .u32 n.group, .int .i64 n.links,
    .int .u32 n.rs, .int .u32 n.rn, .int .u32 n.ws, .int .u32 n.wn, .int .u32 n.ts, .int .u32 n.tn,
    .slice a.dA n.data.length a.dCap,
    .int .u8 n.verf.a0, .int .u8 n.verf.a1, .int .u8 n.verf.a2, .int .u8 n.verf.a3, .int .u8 n.verf.a4, .int .u8 n.verf.a5, .int .u8 n.verf.a6, .int .u8 n.verf.a7,
    .string n.target, .slice a.lA n.list.length a.lCap, .int .i64 n.parent, .int .u64 n.next]

def nd (ns : List Node) (i : Nat) : Node := ns.getD i Node.zero
def lc (as : List Loc) (i : Nat) : Loc := as.getD i Loc.zero
def en (es : List Entry) (i : Nat) : Entry := es.getD i Entry.zero

/-- a row of elements of one make: sz cells each, at p; all in blocks of F -/
structure RowsAt (F : Nat → Prop) (w : World) (sz : Nat) (p : Option Addr) (len : Nat) (cell : Nat → Nat → Option Value) : Prop where
  adr : 0 < len → ∃ b o, p = some ⟨b, o, none⟩
  foot : ∀ b o, 0 < len → p = some ⟨b, o, none⟩ → F b
  cell : ∀ b o, p = some ⟨b, o, none⟩ → ∀ i, i < len → ∀ j, j < sz → w.cell? ⟨b, o + i * sz + j, none⟩ = cell i j

theorem RowsAt.keep {F F' : Nat → Prop} {w w' : World} {sz : Nat} {p : Option Addr} {len : Nat} {cell : Nat → Nat → Option Value} (h : RowsAt F w sz p len cell) (hk : ∀ k, F k → w'.heap[k]? = w.heap[k]?) (hF : ∀ k, F k → F' k) : RowsAt F' w' sz p len cell :=
  ⟨h.adr, fun b o hl hp => hF b (h.foot b o hl hp), fun b o hp i hi j hj => by
    rw [← h.cell b o hp i hi j hj]
    exact World.cell?_of_block (hk b (h.foot b o (by omega) hp))⟩

def BytesAt (F : Nat → Prop) (w : World) (p : Option Addr) (xs : List Int) : Prop := RowsAt F w 1 p xs.length fun i _ => some (.int .u8 (xs.getD i 0))
def EntriesAt (F : Nat → Prop) (w : World) (p : Option Addr) (es : List Entry) : Prop :=
  RowsAt F w 3 p es.length fun i j => (#[.string (en es i).name, .int .i64 (en es i).node, .int .u64 (en es i).cookie] : Array Value)[j]?
structure NodeAt (F : Nat → Prop) (w : World) (n : Node) (a : Loc) : Prop where
  data : BytesAt F w a.dA n.data
  list : EntriesAt F w a.lA n.list
  dcap : n.data.length ≤ a.dCap
  lcap : n.list.length ≤ a.lCap
structure NodesAt (F : Nat → Prop) (w : World) (p : Option Addr) (ns : List Node) (as : List Loc) : Prop where
  rows : RowsAt F w 25 p ns.length fun i j => ((nd ns i).cells (lc as i))[j]?
  node : ∀ i, i < ns.length → NodeAt F w (nd ns i) (lc as i)
  len : as.length = ns.length

section
variable {F F' : Nat → Prop} {w w' : World}
theorem BytesAt.keep {p xs} (h : BytesAt F w p xs) (hk : ∀ k, F k → w'.heap[k]? = w.heap[k]?) (hF : ∀ k, F k → F' k) : BytesAt F' w' p xs := RowsAt.keep h hk hF
theorem EntriesAt.keep {p es} (h : EntriesAt F w p es) (hk : ∀ k, F k → w'.heap[k]? = w.heap[k]?) (hF : ∀ k, F k → F' k) : EntriesAt F' w' p es := RowsAt.keep h hk hF
theorem NodeAt.keep {n a} (h : NodeAt F w n a) (hk : ∀ k, F k → w'.heap[k]? = w.heap[k]?) (hF : ∀ k, F k → F' k) : NodeAt F' w' n a := ⟨h.data.keep hk hF, h.list.keep hk hF, h.dcap, h.lcap⟩
theorem NodesAt.keep {p ns as} (h : NodesAt F w p ns as) (hk : ∀ k, F k → w'.heap[k]? = w.heap[k]?) (hF : ∀ k, F k → F' k) : NodesAt F' w' p ns as :=
  ⟨h.rows.keep hk hF, fun i hi => (h.node i hi).keep hk hF, h.len⟩
end

/-- in the memory that there is -/
abbrev Low (w : World) : Nat → Prop := (· < w.heap.size)
end Go.Proofs.Ytfhhggcdmgjbcaa.Sx
