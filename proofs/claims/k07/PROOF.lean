import PyProof.Rows.All
import Wide.All
import OpenK.AllK
import Wide.FinOn
import HandS.Base
import HandS.List
import HandS.Text
import HandS.Call
import KE.SortKeyed
import KE.LtData
import PyProof.EqLayable
import PyProof.P3Statements
import HandS.ForMost
import HandS.Exc
import HandS.ExcOwn
import HandS.CallSlots
import KE.KEqNest
import HandS.Style
import HandS.Defaults
import HandS.Comp
import HandS.Dict
import HandS.Iter
import HandS.WordsExc
import HandS.DictComp
import HandS.IsInst
import HandS.Conv
import HandS.WordsDict
import HandS.More
import KE.SortData
import HandS.ExcInit
import HandS.ExcField
import HandS.TryMany
import HandS.ExcIs
import KE.GoesEnum
import HandS.Star
import HandS.TupAny
import HandS.Deep
import HandS.Words
import HandS.HeadHook2
import HandS.HeadHook4
import HandS.HeadEnd
import HandS.Head0
import HandS.Head1
import HandS.Head2
import HandS.HeadHook1
import PySem.Challenge.RW_towerup_k07_rows_of_calls
set_option Elab.async false
set_option linter.all false
set_option maxRecDepth 100000
set_option maxHeartbeats 0
/-! M0: data, runs, the mirrors of what a program does. -/
namespace DL
open PySem PySem.Spec PyProof.Rows L2 PySem.W
inductive Tag where
  | lst | tup | dct (ks : List Key) | dctT (ks : List (List Key)) | obj (c : Nat)
inductive D where
  | non | bl (b : Bool) | int (i : Int) | str (s : Str) | wld (k : Nat) | node (t : Tag) (xs : List D)
abbrev D.lst (xs : List D) : D := .node .lst xs
abbrev D.tup (xs : List D) : D := .node .tup xs
abbrev D.dct (ks : List Key) (xs : List D) : D := .node (.dct ks) xs
abbrev D.obj (c : Nat) (xs : List D) : D := .node (.obj c) xs
instance : Inhabited D := ⟨.non⟩
/-- an exception: its class by number, its fields -/
structure Err where
  c : Nat
  fs : List D

inductive M (α : Type) where
  | ret (a : α) | stuck | draw (n : Int) (k : Int → M α)
namespace M
def bind {α β : Type} : M α → (α → M β) → M β
  | .ret a, f => f a
  | .stuck, _ => .stuck
  | .draw n k, f => .draw n fun r => (k r).bind f
def wp {α : Type} : M α → (α → Prop) → Prop
  | .ret a, Q => Q a
  | .stuck, _ => False
  | .draw n k, Q => 0 < n ∧ ∀ r, 0 ≤ r → r < n → (k r).wp Q
theorem wp_mono {α : Type} {Q R : α → Prop} (h : ∀ a, Q a → R a) : ∀ {m : M α}, m.wp Q → m.wp R
  | .ret _, q => h _ q
  | .stuck, q => q
  | .draw _ k, ⟨p, q⟩ => ⟨p, fun r h1 h2 => wp_mono h (m := k r) (q r h1 h2)⟩
theorem wp_bind {α β : Type} {f : α → M β} {Q : β → Prop} : ∀ {m : M α}, (m.bind f).wp Q ↔ m.wp fun a => (f a).wp Q
  | .ret _ => Iff.rfl
  | .stuck => Iff.rfl
  | .draw n k => by
    constructor
    · rintro ⟨p, q⟩
      exact ⟨p, fun r h1 h2 => wp_bind.mp (q r h1 h2)⟩
    · rintro ⟨p, q⟩
      exact ⟨p, fun r h1 h2 => wp_bind.mpr (q r h1 h2)⟩
@[simp] theorem bind_ret {α β : Type} (a : α) (f : α → M β) : (M.ret a).bind f = f a := rfl
@[simp] theorem bind_stuck {α β : Type} (f : α → M β) : (M.stuck).bind f = .stuck := rfl
@[simp] theorem bind_draw {α β : Type} (n : Int) (k : Int → M α) (f : α → M β) : (M.draw n k).bind f = .draw n fun r => (k r).bind f := rfl
theorem bind_assoc {α β γ : Type} (f : α → M β) (g : β → M γ) : ∀ m : M α, (m.bind f).bind g = m.bind fun a => (f a).bind g
  | .ret _ => rfl
  | .stuck => rfl
  | .draw n k => by
    show M.draw n _ = M.draw n _
    congr 1
    funext r
    exact bind_assoc f g (k r)
end M

inductive Slot where
  | none | val (d : D) | own (t : Tag) (ds : List D) | exc (c : Nat) (fs : List D)
abbrev Rho := List Slot

section
universe u
variable {β : Type u}
def fcN : Nat → (Nat → β) → β
  | 0, k => k 0
  | n + 1, k => k (n + 1)
def fcI : Int → (Int → β) → β
  | .ofNat n, k => fcN n fun n => k (.ofNat n)
  | .negSucc n, k => fcN n fun n => k (.negSucc n)
def fcB : Bool → (Bool → β) → β
  | true, k => k true
  | false, k => k false
def fcKs {κ : Type} : List κ → (List κ → β) → β
  | [], k => k []
  | x :: xs, k => fcKs xs fun xs => k (x :: xs)
def fcT : Tag → (Tag → β) → β
  | .lst, k => k .lst
  | .tup, k => k .tup
  | .dct ks, k => fcKs ks fun ks => k (.dct ks)
  | .dctT ks, k => fcKs ks fun ks => k (.dctT ks)
  | .obj c, k => k (.obj c)
mutual
def fcD : D → (D → β) → β
  | .non, k => k .non
  | .bl b, k => fcB b fun b => k (.bl b)
  | .int i, k => fcI i fun i => k (.int i)
  | .str s, k => k (.str s)
  | .wld n, k => k (.wld n)
  | .node t xs, k => fcT t fun t => fcL xs fun xs => k (.node t xs)
def fcL : List D → (List D → β) → β
  | [], k => k []
  | x :: xs, k => fcD x fun x => fcL xs fun xs => k (x :: xs)
end
def fcS : Slot → (Slot → β) → β
  | .none, k => k .none
  | .val d, k => k (.val d)
  | .own t ds, k => k (.own t ds)
  | .exc c fs, k => k (.exc c fs)
def fcR : Rho → (Rho → β) → β
  | [], k => k []
  | s :: r, k => fcS s fun s => fcR r fun r => k (s :: r)
@[simp] theorem fcN_eq (n : Nat) (k : Nat → β) : fcN n k = k n := by cases n <;> rfl
@[simp] theorem fcI_eq (n : Int) (k : Int → β) : fcI n k = k n := by cases n <;> simp [fcI]
@[simp] theorem fcB_eq (n : Bool) (k : Bool → β) : fcB n k = k n := by cases n <;> rfl
@[simp] theorem fcKs_eq {κ : Type} : ∀ (n : List κ) (k : List κ → β), fcKs n k = k n
  | [], _ => rfl
  | x :: xs, k => by simp [fcKs, fcKs_eq xs]
@[simp] theorem fcT_eq (n : Tag) (k : Tag → β) : fcT n k = k n := by cases n <;> simp [fcT]
mutual
theorem fcD_eq : ∀ (d : D) (k : D → β), fcD d k = k d
  | .non, _ => by simp [fcD]
  | .bl _, _ => by simp [fcD]
  | .int _, _ => by simp [fcD]
  | .str _, _ => by simp [fcD]
  | .wld _, _ => by simp [fcD]
  | .node t xs, k => by rw [fcD, fcT_eq, fcL_eq xs]
theorem fcL_eq : ∀ (d : List D) (k : List D → β), fcL d k = k d
  | [], _ => by simp [fcL]
  | x :: xs, k => by rw [fcL, fcD_eq x, fcL_eq xs]
end
theorem fcS_eq (s : Slot) (k : Slot → β) : fcS s k = k s := by cases s <;> rfl
theorem fcR_eq : ∀ (r : Rho) (k : Rho → β), fcR r k = k r
  | [], _ => rfl
  | s :: r, k => by rw [fcR, fcS_eq, fcR_eq r]end

def z_limit : PySem.Str := ⟨#[108, 105, 109, 105, 116]⟩
theorem qz_limit : (PySem.Str.ofString "limit") = z_limit := by kernel_rfl
def z_part : PySem.Str := ⟨#[112, 97, 114, 116]⟩
theorem qz_part : (PySem.Str.ofString "part") = z_part := by kernel_rfl
def z_method : PySem.Str := ⟨#[109, 101, 116, 104, 111, 100]⟩
theorem qz_method : (PySem.Str.ofString "method") = z_method := by kernel_rfl
def z_state : PySem.Str := ⟨#[115, 116, 97, 116, 101]⟩
theorem qz_state : (PySem.Str.ofString "state") = z_state := by kernel_rfl
def z_argument : PySem.Str := ⟨#[97, 114, 103, 117, 109, 101, 110, 116]⟩
theorem qz_argument : (PySem.Str.ofString "argument") = z_argument := by kernel_rfl
def z_index : PySem.Str := ⟨#[105, 110, 100, 101, 120]⟩
theorem qz_index : (PySem.Str.ofString "index") = z_index := by kernel_rfl
def z_side : PySem.Str := ⟨#[115, 105, 100, 101]⟩
theorem qz_side : (PySem.Str.ofString "side") = z_side := by kernel_rfl
def z_mode : PySem.Str := ⟨#[109, 111, 100, 101]⟩
theorem qz_mode : (PySem.Str.ofString "mode") = z_mode := by kernel_rfl
def z_result : PySem.Str := ⟨#[114, 101, 115, 117, 108, 116]⟩
theorem qz_result : (PySem.Str.ofString "result") = z_result := by kernel_rfl
def z_place : PySem.Str := ⟨#[112, 108, 97, 99, 101]⟩
theorem qz_place : (PySem.Str.ofString "place") = z_place := by kernel_rfl
def z_why : PySem.Str := ⟨#[119, 104, 121]⟩
theorem qz_why : (PySem.Str.ofString "why") = z_why := by kernel_rfl
def z_name : PySem.Str := ⟨#[110, 97, 109, 101]⟩
theorem qz_name : (PySem.Str.ofString "name") = z_name := by kernel_rfl
def z_line : PySem.Str := ⟨#[108, 105, 110, 101]⟩
theorem qz_line : (PySem.Str.ofString "line") = z_line := by kernel_rfl
def z_states : PySem.Str := ⟨#[115, 116, 97, 116, 101, 115]⟩
theorem qz_states : (PySem.Str.ofString "states") = z_states := by kernel_rfl
def z_start : PySem.Str := ⟨#[115, 116, 97, 114, 116]⟩
theorem qz_start : (PySem.Str.ofString "start") = z_start := by kernel_rfl
def z__methods : PySem.Str := ⟨#[95, 109, 101, 116, 104, 111, 100, 115]⟩
theorem qz__methods : (PySem.Str.ofString "_methods") = z__methods := by kernel_rfl
def z_machine : PySem.Str := ⟨#[109, 97, 99, 104, 105, 110, 101]⟩
theorem qz_machine : (PySem.Str.ofString "machine") = z_machine := by kernel_rfl
def z_listed : PySem.Str := ⟨#[108, 105, 115, 116, 101, 100]⟩
theorem qz_listed : (PySem.Str.ofString "listed") = z_listed := by kernel_rfl
def z_begins : PySem.Str := ⟨#[98, 101, 103, 105, 110, 115]⟩
theorem qz_begins : (PySem.Str.ofString "begins") = z_begins := by kernel_rfl
def z_ends : PySem.Str := ⟨#[101, 110, 100, 115]⟩
theorem qz_ends : (PySem.Str.ofString "ends") = z_ends := by kernel_rfl
def z_ended : PySem.Str := ⟨#[101, 110, 100, 101, 100]⟩
theorem qz_ended : (PySem.Str.ofString "ended") = z_ended := by kernel_rfl
def z_kind : PySem.Str := ⟨#[107, 105, 110, 100]⟩
theorem qz_kind : (PySem.Str.ofString "kind") = z_kind := by kernel_rfl
def z_sides : PySem.Str := ⟨#[115, 105, 100, 101, 115]⟩
theorem qz_sides : (PySem.Str.ofString "sides") = z_sides := by kernel_rfl
def z__rules : PySem.Str := ⟨#[95, 114, 117, 108, 101, 115]⟩
theorem qz__rules : (PySem.Str.ofString "_rules") = z__rules := by kernel_rfl
def z_word : PySem.Str := ⟨#[119, 111, 114, 100]⟩
theorem qz_word : (PySem.Str.ofString "word") = z_word := by kernel_rfl
def z_size : PySem.Str := ⟨#[115, 105, 122, 101]⟩
theorem qz_size : (PySem.Str.ofString "size") = z_size := by kernel_rfl
def z_owner : PySem.Str := ⟨#[111, 119, 110, 101, 114]⟩
theorem qz_owner : (PySem.Str.ofString "owner") = z_owner := by kernel_rfl
def z_renamed : PySem.Str := ⟨#[114, 101, 110, 97, 109, 101, 100]⟩
theorem qz_renamed : (PySem.Str.ofString "renamed") = z_renamed := by kernel_rfl
def z_variables : PySem.Str := ⟨#[118, 97, 114, 105, 97, 98, 108, 101, 115]⟩
theorem qz_variables : (PySem.Str.ofString "variables") = z_variables := by kernel_rfl
def z_target : PySem.Str := ⟨#[116, 97, 114, 103, 101, 116]⟩
theorem qz_target : (PySem.Str.ofString "target") = z_target := by kernel_rfl
def z_zero : PySem.Str := ⟨#[122, 101, 114, 111]⟩
theorem qz_zero : (PySem.Str.ofString "zero") = z_zero := by kernel_rfl
def z_made : PySem.Str := ⟨#[109, 97, 100, 101]⟩
theorem qz_made : (PySem.Str.ofString "made") = z_made := by kernel_rfl
def z_replaced : PySem.Str := ⟨#[114, 101, 112, 108, 97, 99, 101, 100]⟩
theorem qz_replaced : (PySem.Str.ofString "replaced") = z_replaced := by kernel_rfl
def z_program : PySem.Str := ⟨#[112, 114, 111, 103, 114, 97, 109]⟩
theorem qz_program : (PySem.Str.ofString "program") = z_program := by kernel_rfl
def z_inner : PySem.Str := ⟨#[105, 110, 110, 101, 114]⟩
theorem qz_inner : (PySem.Str.ofString "inner") = z_inner := by kernel_rfl
def z_widths : PySem.Str := ⟨#[119, 105, 100, 116, 104, 115]⟩
theorem qz_widths : (PySem.Str.ofString "widths") = z_widths := by kernel_rfl
def z_store : PySem.Str := ⟨#[115, 116, 111, 114, 101]⟩
theorem qz_store : (PySem.Str.ofString "store") = z_store := by kernel_rfl
def z_blocks : PySem.Str := ⟨#[98, 108, 111, 99, 107, 115]⟩
theorem qz_blocks : (PySem.Str.ofString "blocks") = z_blocks := by kernel_rfl
def z_codes : PySem.Str := ⟨#[99, 111, 100, 101, 115]⟩
theorem qz_codes : (PySem.Str.ofString "codes") = z_codes := by kernel_rfl
def z_things : PySem.Str := ⟨#[116, 104, 105, 110, 103, 115]⟩
theorem qz_things : (PySem.Str.ofString "things") = z_things := by kernel_rfl
def z_contract : PySem.Str := ⟨#[99, 111, 110, 116, 114, 97, 99, 116]⟩
theorem qz_contract : (PySem.Str.ofString "contract") = z_contract := by kernel_rfl
def z_steps : PySem.Str := ⟨#[115, 116, 101, 112, 115]⟩
theorem qz_steps : (PySem.Str.ofString "steps") = z_steps := by kernel_rfl
def z_history : PySem.Str := ⟨#[104, 105, 115, 116, 111, 114, 121]⟩
theorem qz_history : (PySem.Str.ofString "history") = z_history := by kernel_rfl
def z_home : PySem.Str := ⟨#[104, 111, 109, 101]⟩
theorem qz_home : (PySem.Str.ofString "home") = z_home := by kernel_rfl
def z_taken : PySem.Str := ⟨#[116, 97, 107, 101, 110]⟩
theorem qz_taken : (PySem.Str.ofString "taken") = z_taken := by kernel_rfl
def z_passed : PySem.Str := ⟨#[112, 97, 115, 115, 101, 100]⟩
theorem qz_passed : (PySem.Str.ofString "passed") = z_passed := by kernel_rfl
def z_kept : PySem.Str := ⟨#[107, 101, 112, 116]⟩
theorem qz_kept : (PySem.Str.ofString "kept") = z_kept := by kernel_rfl
def z_broken : PySem.Str := ⟨#[98, 114, 111, 107, 101, 110]⟩
theorem qz_broken : (PySem.Str.ofString "broken") = z_broken := by kernel_rfl
def z_earlier : PySem.Str := ⟨#[101, 97, 114, 108, 105, 101, 114]⟩
theorem qz_earlier : (PySem.Str.ofString "earlier") = z_earlier := by kernel_rfl
def z_stood : PySem.Str := ⟨#[115, 116, 111, 111, 100]⟩
theorem qz_stood : (PySem.Str.ofString "stood") = z_stood := by kernel_rfl
def z_breach : PySem.Str := ⟨#[98, 114, 101, 97, 99, 104]⟩
theorem qz_breach : (PySem.Str.ofString "breach") = z_breach := by kernel_rfl
def z_found : PySem.Str := ⟨#[102, 111, 117, 110, 100]⟩
theorem qz_found : (PySem.Str.ofString "found") = z_found := by kernel_rfl
def z_edges : PySem.Str := ⟨#[101, 100, 103, 101, 115]⟩
theorem qz_edges : (PySem.Str.ofString "edges") = z_edges := by kernel_rfl
def z_silent : PySem.Str := ⟨#[115, 105, 108, 101, 110, 116]⟩
theorem qz_silent : (PySem.Str.ofString "silent") = z_silent := by kernel_rfl
def z_loud : PySem.Str := ⟨#[108, 111, 117, 100]⟩
theorem qz_loud : (PySem.Str.ofString "loud") = z_loud := by kernel_rfl
def z_replies : PySem.Str := ⟨#[114, 101, 112, 108, 105, 101, 115]⟩
theorem qz_replies : (PySem.Str.ofString "replies") = z_replies := by kernel_rfl
def z_heard : PySem.Str := ⟨#[104, 101, 97, 114, 100]⟩
theorem qz_heard : (PySem.Str.ofString "heard") = z_heard := by kernel_rfl
def z_lots : PySem.Str := ⟨#[108, 111, 116, 115]⟩
theorem qz_lots : (PySem.Str.ofString "lots") = z_lots := by kernel_rfl
def z_met : PySem.Str := ⟨#[109, 101, 116]⟩
theorem qz_met : (PySem.Str.ofString "met") = z_met := by kernel_rfl
def z_spared : PySem.Str := ⟨#[115, 112, 97, 114, 101, 100]⟩
theorem qz_spared : (PySem.Str.ofString "spared") = z_spared := by kernel_rfl
def z_inside : PySem.Str := ⟨#[105, 110, 115, 105, 100, 101]⟩
theorem qz_inside : (PySem.Str.ofString "inside") = z_inside := by kernel_rfl
def z_whole : PySem.Str := ⟨#[119, 104, 111, 108, 101]⟩
theorem qz_whole : (PySem.Str.ofString "whole") = z_whole := by kernel_rfl
def z_let : PySem.Str := ⟨#[108, 101, 116]⟩
theorem qz_let : (PySem.Str.ofString "let") = z_let := by kernel_rfl
def z_come : PySem.Str := ⟨#[99, 111, 109, 101]⟩
theorem qz_come : (PySem.Str.ofString "come") = z_come := by kernel_rfl
def z_lines : PySem.Str := ⟨#[108, 105, 110, 101, 115]⟩
theorem qz_lines : (PySem.Str.ofString "lines") = z_lines := by kernel_rfl
def z_many : PySem.Str := ⟨#[109, 97, 110, 121]⟩
theorem qz_many : (PySem.Str.ofString "many") = z_many := by kernel_rfl
def cfL : List (List Str) := [[], [], [z_limit], [z_part], [z_method], [z_state], [z_argument], [z_part], [z_part], [z_index], [], [], [z_index], [], [z_side], [], [], [z_side], [z_side], [z_mode], [z_result], [z_part], [z_method, z_place, z_why], [z_place], [z_part], [z_name], [z_index], [], [], [], [z_why], [z_name], [z_line], [z_states, z_start, z__methods], [z_machine, z_listed, z_begins, z_ends, z_ended], [z_kind, z_sides, z__rules], [z_name, z_kind], [z_name, z_word, z_size, z_start, z_owner, z_kind], [z_renamed, z_variables, z_argument, z_target, z_zero], [z_made, z_replaced, z_program, z_inner, z_widths], [z_store, z_blocks, z_codes], [z_kind, z_things, z_contract, z_sides], [z_steps, z_states, z_history], [z_home, z_state, z_taken, z_passed], [z_home, z_taken, z_state, z_kept, z_broken, z_earlier], [z_stood, z_breach], [z_found, z_edges], [z_silent, z_loud, z_replies, z_heard, z_lots, z_met, z_limit, z_history], [z_spared, z_kept, z_inside, z_whole], [z_contract, z_let, z_come], [z_lines, z_many]]
def cf (c : Nat) : List Str := cfL.getD c []
abbrev ER (α : Type) := Except (Err × Rho) (α × Rho)
abbrev EM (α : Type) := Rho → M (ER α)
def bindE {α β : Type} (m : M (ER α)) (f : α → Rho → M (ER β)) : M (ER β) := m.bind fun r => match r with
  | .ok p => f p.1 p.2
  | .error e => .ret (.error e)
def retE {α : Type} (a : α) (ρ : Rho) : M (ER α) := .ret (.ok (a, ρ))
/-- a partial answer -/
def optE {α : Type} (o : Option α) (ρ : Rho) : M (ER α) := match o with
  | some a => .ret (.ok (a, ρ))
  | none => .stuck
inductive SR where
  | nx (ρ : Rho) | rt (d : D) | bk (ρ : Rho) | ct (ρ : Rho) | ex (e : Err) (ρ : Rho)
abbrev SM := Rho → M SR
def bindS (m : M SR) (f : Rho → M SR) : M SR := m.bind fun r => match r with
  | .nx ρ => f ρ
  | r => .ret r
/-- an expression's answer goes on in a statement -/
def bindES {α : Type} (m : M (ER α)) (f : α → Rho → M SR) : M SR := m.bind fun r => match r with
  | .ok p => f p.1 p.2
  | .error e => .ret (.ex e.1 e.2)

def eC (d : D) : EM D := fun ρ => retE d ρ
/-- an own slot is let go as data -/
def whole : Tag → List D → Bool
  | .obj c, ds => (cf c).length == ds.length
  | _, _ => true
def eV (i : Nat) : EM D := fun ρ => match ρ[i]? with
  | some (.val d) => retE d ρ
  | some (.own t ds) => if whole t ds then retE (.node t ds) (ρ.set i (.val (.node t ds))) else .stuck
  | _ => .stuck
/-- a name to be read where it stands -/
def eP (i : Nat) : EM D := fun ρ => match ρ[i]? with
  | some (.val d) => retE d ρ
  | some (.own t ds) => retE (.node t ds) ρ
  | _ => .stuck
def qV (i : Nat) : Rho → Option D := fun ρ => match ρ[i]? with
  | some (.val d) => some d
  | some (.own t ds) => some (.node t ds)
  | _ => none
def eBin (g : D → D → Option D) (ma mb : EM D) : EM D := fun ρ => bindE (ma ρ) fun x ρ1 => bindE (mb ρ1) fun y ρ2 => optE (g x y) ρ2
/-- the right one quiet: the left one may be an own object -/
def eBinQ (g : D → D → Option D) (ma : EM D) (mb : Rho → Option D) : EM D := fun ρ => bindE (ma ρ) fun x ρ1 => match mb ρ1 with
  | some y => optE (g x y) ρ1
  | none => .stuck
def lk : List Key → List D → Key → Option D
  | k :: ks, x :: xs, q => if k = q then some x else lk ks xs q
  | _, _, _ => none
def leafEq : D → D → Option Bool
  | .non, .non => some true
  | .non, .bl _ => some false
  | .non, .int _ => some false
  | .non, .str _ => some false
  | .bl _, .non => some false
  | .bl a, .bl b => some (a == b)
  | .bl a, .int j => some ((if a then 1 else 0) == j)
  | .bl _, .str _ => some false
  | .int _, .non => some false
  | .int i, .bl b => some (i == (if b then 1 else 0))
  | .int i, .int j => some (i == j)
  | .int _, .str _ => some false
  | .str _, .non => some false
  | .str _, .bl _ => some false
  | .str _, .int _ => some false
  | .str x, .str y => some (x == y)
  | _, _ => none
def allO : List (Option Bool) → Option Bool
  | [] => some true
  | none :: _ => none
  | some b :: r => (allO r).map (b && ·)
def isLeaf : D → Bool
  | .non => true
  | .bl _ => true
  | .int _ => true
  | .str _ => true
  | _ => false
def seqTag : Tag → Bool
  | .lst => true
  | .tup => true
  | _ => false
def eqN (dk : Bool) : Nat → D → D → Option Bool
  | 0, d, e => leafEq d e
  | n + 1, d, e => match d, e with
    | .node t xs, .node u ys => match t, u with
      | .lst, .lst => if xs.length = ys.length then allO (List.zipWith (eqN dk n) xs ys) else some false
      | .tup, .tup => (allO (List.zipWith (eqN dk n) xs ys)).map (· && xs.length == ys.length)
      | .lst, .tup => some false
      | .tup, .lst => some false
      | .dct ks, .dct ls => if dk then (allO (List.zipWith (fun k x => match lk ls ys k with | some y => eqN dk n x y | none => some false) ks xs)).map (ks.length == ls.length && ·) else none
      | _, _ => none
    | .node t _, e => if seqTag t && isLeaf e then some false else none
    | d, .node t _ => if isLeaf d && seqTag t then some false else none
    | d, e => leafEq d e

mutual
def okD : D → Bool
  | .wld _ => false
  | .node (.dctT _) _ => false
  | .node (.obj _) _ => false
  | .node .lst xs => okL xs
  | .node .tup xs => okL xs
  | .node (.dct _) xs => okL xs
  | .non => true
  | .bl _ => true
  | .int _ => true
  | .str _ => true
def okL : List D → Bool
  | [] => true
  | d :: ds => okD d && okL ds
end
def eqD (x y : D) : Option Bool := if okD x && okD y then eqN true 60 x y else none
def eqO (x y : D) : Option D := (eqD x y).map .bl
def eqF (x y : D) : Option Bool := if okD x && okD y then eqN false 60 x y else none
def neO (x y : D) : Option D := (eqF x y).map fun b => .bl (!b)
def dKey : D → Option Key
  | .int i => some (.inl i)
  | .str s => some (.inr s)
  | _ => none
def anyO : List (Option Bool) → Option Bool
  | [] => some false
  | none :: _ => none
  | some b :: r => (anyO r).map (b || ·)
def oneSign : D → Option Nat
  | .str s => match s.cps.toList with
    | [c] => some c
    | _ => none
  | _ => none
def inB (x y : D) : Option Bool := match y with
  | .node .lst ds => if okD x && okL ds then anyO (ds.map fun z => eqN false 60 z x) else none
  | .node .tup ds => if okD x && okL ds then anyO (ds.map fun z => eqN false 60 z x) else none
  | .node (.dct ks) ds => (dKey x).map fun k => (lk ks ds k).isSome
  | .str z => (oneSign x).map fun c => decide (c ∈ z.cps.toList)
  | _ => none
def inO (x y : D) : Option D := (inB x y).map .bl
def notInO (x y : D) : Option D := (inB x y).map fun b => .bl (!b)
def sz : Nat := 16777216
def addO : D → D → Option D
  | .int i, .int j => some (.int (i + j))
  | .str a, .str b => if a.length + b.length ≤ sz then some (.str (a ++ b)) else none
  | .node .lst xs, .node .lst ys => if xs.length + ys.length ≤ sz then some (.lst (xs ++ ys)) else none
  | .node .tup xs, .node .tup ys => if xs.length + ys.length ≤ sz ∧ xs.isEmpty = false then some (.tup (xs ++ ys)) else none
  | _, _ => none
def intO (f : Int → Int → Option Int) : D → D → Option D
  | .int i, .int j => (f i j).map .int
  | _, _ => none
def subO : D → D → Option D := intO fun i j => some (i - j)
def mulI (i j : Int) : Option Int := if (-(2 ^ 64) < i ∧ i < 2 ^ 64) ∨ (-(2 ^ 64) < j ∧ j < 2 ^ 64) then some (i * j) else none
def mulO : D → D → Option D := intO mulI
def ordO (p : Int → Int → Bool) : D → D → Option D
  | .int i, .int j => some (.bl (p i j))
  | _, _ => none
def ltO : D → D → Option D := ordO fun i j => decide (i < j)
def leO : D → D → Option D := ordO fun i j => decide (i ≤ j)
def gtO : D → D → Option D := ordO fun i j => decide (j < i)
def geO : D → D → Option D := ordO fun i j => decide (j ≤ i)
def isNonD : D → Bool
  | .non => true
  | _ => false
def isB (x y : D) : Option Bool := match x, y with
  | x, .non => some (isNonD x)
  | .bl a, .bl b => some (decide (a = b))
  | _, _ => none
def isO (x y : D) : Option D := (isB x y).map .bl
def isNotO (x y : D) : Option D := (isB x y).map fun b => .bl (!b)
def ixO (x y : D) : Option D := match x, y with
  | .node .lst ds, .int i => atI ds i
  | .node .tup ds, .int i => atI ds i
  | .str z, .int i => if z.length ≤ sz then (atI z.cps.toList i).map fun c => .str ⟨#[c]⟩ else none
  | .node (.dct ks) ds, y => (dKey y).bind (lk ks ds)
  | _, _ => none
/-- a def's mirror -/
abbrev FM := List D → M (Except Err D)
def callM (x : M (Except Err D)) (ρ : Rho) : M (ER D) := x.bind fun r => match r with
  | .ok d => fcD d fun d => .ret (.ok (d, ρ))
  | .error e => .ret (.error (e, ρ))
def startR (n : Nat) (ds : List D) : Rho := ds.map Slot.val ++ List.replicate (n - ds.length) Slot.none
def runD (n : Nat) (m : SM) : FM := fun ds => fcL ds fun ds => fcR (startR n ds) fun ρ => (m ρ).bind fun r => match r with
  | .nx _ => .ret (.ok .non)
  | .rt d => .ret (.ok d)
  | .ex e _ => .ret (.error e)
  | .bk _ => .stuck
  | .ct _ => .stuck

def eNil : EM (List D) := fun ρ => retE [] ρ
def eCons (ma : EM D) (mr : EM (List D)) : EM (List D) := fun ρ => bindE (ma ρ) fun x ρ1 => bindE (mr ρ1) fun xs ρ2 => retE (x :: xs) ρ2
def eCl (ma mk : EM (List D)) : EM (List D × List D) := fun ρ => bindE (ma ρ) fun xs ρ1 => bindE (mk ρ1) fun ys ρ2 => retE (xs, ys) ρ2
def eCl1 (ma : EM (List D)) : EM (List D × List D) := fun ρ => bindE (ma ρ) fun xs ρ1 => retE (xs, []) ρ1
def eQ (q : Rho → Option D) : EM D := fun ρ => optE (q ρ) ρ
def qC (d : D) : Rho → Option D := fun _ => some d
def eCl0 : EM (List D × List D) := fun ρ => retE ([], []) ρ
def eClK (mk : EM (List D)) : EM (List D × List D) := fun ρ => bindE (mk ρ) fun ys ρ2 => retE ([], ys) ρ2
def eCall (m : FM) (np nk : Nat) (gD : List D → List D → List D) (ma : EM (List D × List D)) : EM D := fun ρ => bindE (ma ρ) fun p ρ1 => if p.1.length = np ∧ p.2.length = nk then callM (m (gD p.1 p.2)) ρ1 else .stuck
def eTst (m : EM D) : EM Bool := fun ρ => bindE (m ρ) fun d ρ1 => match d with
  | .bl b => retE b ρ1
  | _ => .stuck
def eNotB (m : EM Bool) : EM Bool := fun ρ => bindE (m ρ) fun b ρ1 => retE (!b) ρ1
def eAndB (m n : EM Bool) : EM Bool := fun ρ => bindE (m ρ) fun b ρ1 => if b then n ρ1 else retE false ρ1
def eOrB (m n : EM Bool) : EM Bool := fun ρ => bindE (m ρ) fun b ρ1 => if b then retE true ρ1 else n ρ1
def eNot (m : EM D) : EM D := fun ρ => bindE (m ρ) fun d ρ1 => match d with
  | .bl b => retE (.bl (!b)) ρ1
  | _ => .stuck
def eAnd (m n : EM D) : EM D := fun ρ => bindE (m ρ) fun d ρ1 => match d with
  | .bl true => n ρ1
  | .bl false => retE (.bl false) ρ1
  | _ => .stuck
def eOr (m n : EM D) : EM D := fun ρ => bindE (m ρ) fun d ρ1 => match d with
  | .bl true => retE (.bl true) ρ1
  | .bl false => n ρ1
  | _ => .stuck
def eIf (c : EM Bool) (m n : EM D) : EM D := fun ρ => bindE (c ρ) fun b ρ1 => if b then m ρ1 else n ρ1
/-- a op b op' c, b asked once -/
def eChain (g g' : D → D → Option D) (ma mb mc : EM D) : EM D := fun ρ => bindE (ma ρ) fun x ρ1 => bindE (mb ρ1) fun y ρ2 => match g x y with
  | some (.bl true) => bindE (mc ρ2) fun z ρ3 => optE (g' y z) ρ3
  | some (.bl false) => retE (.bl false) ρ2
  | _ => .stuck
/-- truth of a value -/
def truD : D → Option Bool
  | .non => some false
  | .bl b => some b
  | .int i => some (i != 0)
  | .str s => if s.length ≤ sz then some ((s.length : Int) != 0) else none
  | .node .lst ds => some (!ds.isEmpty)
  | .node .tup ds => some (!ds.isEmpty)
  | _ => none
def eTru (m : EM D) : EM Bool := fun ρ => bindE (m ρ) fun d ρ1 => optE (truD d) ρ1
def sRet (m : EM D) : SM := fun ρ => bindES (m ρ) fun d _ => .ret (.rt d)
def sRetN : SM := fun _ => .ret (.rt .non)
def sPass : SM := fun ρ => .ret (.nx ρ)
def sBrk : SM := fun ρ => .ret (.bk ρ)
def sCnt : SM := fun ρ => .ret (.ct ρ)
def sSeq (m n : SM) : SM := fun ρ => bindS (m ρ) n
def sIf (c : EM Bool) (m n : SM) : SM := fun ρ => bindES (c ρ) fun b ρ1 => if b then m ρ1 else n ρ1
def sDrop (m : EM D) : SM := fun ρ => bindES (m ρ) fun _ ρ1 => .ret (.nx ρ1)
def sSet (i : Nat) (m : EM D) : SM := fun ρ => bindES (m ρ) fun d ρ1 => fcD d fun d => fcR (ρ1.set i (.val d)) fun ρ2 => .ret (.nx ρ2)
abbrev GM := D → Rho → Option Rho
def gSet (i : Nat) : GM := fun d ρ => some (ρ.set i (.val d))
def gsNil : List D → Rho → Option Rho := fun ds ρ => match ds with
  | [] => some ρ
  | _ => none
def gsCons (g : GM) (m : List D → Rho → Option Rho) : List D → Rho → Option Rho := fun ds ρ => match ds with
  | d :: ds => (g d ρ).bind (m ds)
  | [] => none
def gTupD (n : Nat) (m : List D → Rho → Option Rho) : GM := fun d ρ => match d with
  | .node .tup ds => if ds.length = n then m ds ρ else none
  | .node .lst ds => if ds.length = n then m ds ρ else none
  | _ => none
/-- target = value -/
def sAsg (m : EM D) (g : GM) : SM := fun ρ => bindES (m ρ) fun d ρ1 => fcD d fun d => match g d ρ1 with
  | some ρ2 => fcR ρ2 fun ρ2 => .ret (.nx ρ2)
  | none => .stuck
def dK' : Key → D
  | .inl i => .int i
  | .inr x => .str x
def itemsD : D → Option (List D)
  | .node .lst ds => some ds
  | .node .tup ds => some ds
  | .node (.dct ks) _ => some (ks.map dK')
  | .node (.dctT ks) _ => some (ks.map fun k => .node .tup (k.map dK'))
  | .str s => some (s.cps.toList.map fun c => .str ⟨#[c]⟩)
  | _ => none
def eIt (m : EM D) : EM (List D) := fun ρ => bindE (m ρ) fun d ρ1 => optE (itemsD d) ρ1
@[irreducible] def rgOk (i : Int) : Bool := decide (-4611686018427387904 ≤ i) && decide (i < 4611686018427387904)
def rgFrom : Nat → Int → List D
  | 0, _ => []
  | n + 1, i => .int i :: rgFrom n (i + 1)
def rngD1 : List D → Option (List D)
  | [.int j] => if rgOk j then some (rgFrom j.toNat 0) else none
  | _ => none
def rngD2 : List D → Option (List D)
  | [.int i, .int j] => if rgOk i && rgOk j then some (rgFrom (j - i).toNat i) else none
  | _ => none
def eRng1 (m : EM (List D)) : EM (List D) := fun ρ => bindE (m ρ) fun ds ρ1 => optE (rngD1 ds) ρ1
def eRng2 (m : EM (List D)) : EM (List D) := fun ρ => bindE (m ρ) fun ds ρ1 => optE (rngD2 ds) ρ1
def forGo (g : GM) (body : SM) : List D → Rho → M SR
  | [], ρ => .ret (.nx ρ)
  | x :: xs, ρ => fcD x fun x => match g x ρ with
    | none => .stuck
    | some ρ1 => (fcR ρ1 body).bind fun r => match r with
      | .nx ρ2 => forGo g body xs ρ2
      | .ct ρ2 => forGo g body xs ρ2
      | .bk ρ2 => .ret (.nx ρ2)
      | .rt d => .ret (.rt d)
      | .ex e ρ2 => .ret (.ex e ρ2)
def sFor (it : EM (List D)) (g : GM) (body : SM) : SM := fun ρ => bindES (it ρ) fun xs ρ1 => fcL xs fun xs => forGo g body xs ρ1
def eFz (m : EM (Tag × List D)) : EM D := fun ρ => bindE (m ρ) fun p ρ1 => if whole p.1 p.2 then retE (.node p.1 p.2) ρ1 else .stuck
/-- name = a new object, kept to be written -/
def sNew (i : Nat) (m : EM (Tag × List D)) : SM := fun ρ => bindES (m ρ) fun p ρ1 => fcT p.1 fun t => fcL p.2 fun ds => if i < ρ1.length then fcR (ρ1.set i (.own t ds)) fun ρ2 => .ret (.nx ρ2) else .stuck
/-- [a, b, ..] -/
def eLst (m : EM (List D)) : EM (Tag × List D) := fun ρ => bindE (m ρ) fun ds ρ1 => if ds.length ≤ sz then retE (.lst, ds) ρ1 else .stuck
/-- (a, b, ..) -/
def eTup (m : EM (List D)) : EM D := fun ρ => bindE (m ρ) fun ds ρ1 => if ds.length ≤ sz then retE (.node .tup ds) ρ1 else .stuck
/-- {} -/
def eDctK : EM (Tag × List D) := fun ρ => retE (.dct [], []) ρ
def eDctT : EM (Tag × List D) := fun ρ => retE (.dctT [], []) ρ
def wipeR (ρ : Rho) : List Nat → Rho
  | [] => ρ
  | v :: vs => (wipeR ρ vs).set v .none
/-- no exception comes -/
def bindN {α β : Type} (m : M (ER α)) (f : α → Rho → M (ER β)) : M (ER β) := m.bind fun r => match r with
  | .ok p => f p.1 p.2
  | .error _ => .stuck
/-- a comprehension's items -/
def lcGo (vs : List Nat) (g : GM) (tt : EM Bool) (te : EM D) : List D → Rho → M (ER (List D))
  | [], ρ => retE [] ρ
  | x :: xs, ρ => match g x (wipeR ρ vs) with
    | none => .stuck
    | some ρ1 => bindN (fcR ρ1 tt) fun b ρ2 => if b then bindN (te ρ2) fun y ρ3 => fcD y fun y => bindE (lcGo vs g tt te xs ρ3) fun ys ρ4 => retE (y :: ys) ρ4 else lcGo vs g tt te xs ρ2
def eYes : EM Bool := fun ρ => retE true ρ
def eLc (it : EM (List D)) (vs : List Nat) (g : GM) (tt : EM Bool) (te : EM D) : EM (Tag × List D) := fun ρ => bindE (it ρ) fun ds ρ1 => if ds.length ≤ sz then bindE (lcGo vs g tt te ds ρ1) fun ys ρ2 => retE (.lst, ys) (wipeR ρ2 vs) else .stuck

/-- what is left of a comprehension -/
def lcRest (vs : List Nat) (g : GM) (tt : EM Bool) (te : EM D) (acc xs : List D) (ρ : Rho) : M (ER (Tag × List D)) := bindE (lcGo vs g tt te xs ρ) fun ys ρ2 => retE (.lst, acc ++ ys) (wipeR ρ2 vs)
def lcIn (vs : List Nat) (g : GM) (tt : EM Bool) (te : EM D) : List D → Rho → List D → M (ER (List D))
  | [], ρ, acc => retE acc ρ
  | x :: xs, ρ, acc => match g x (wipeR ρ vs) with
    | none => .stuck
    | some ρ1 => bindN (tt ρ1) fun b ρ2 => if b then bindN (te ρ2) fun y ρ3 => if acc.length < sz then lcIn vs g tt te xs ρ3 (acc ++ [y]) else .stuck else lcIn vs g tt te xs ρ2 acc
def lcOut (vs : List Nat) (g : GM) (tt : EM Bool) (it1 : EM (List D)) (vs1 : List Nat) (g1 : GM) (tt1 : EM Bool) (te : EM D) : List D → Rho → List D → M (ER (List D))
  | [], ρ, acc => retE acc ρ
  | x :: xs, ρ, acc => match g x (wipeR ρ vs) with
    | none => .stuck
    | some ρ1 => bindN (tt ρ1) fun b ρ2 => if b then bindN (it1 ρ2) fun ys ρ3 => bindN (lcIn vs1 g1 tt1 te ys ρ3 acc) fun acc' ρ4 => lcOut vs g tt it1 vs1 g1 tt1 te xs ρ4 acc' else lcOut vs g tt it1 vs1 g1 tt1 te xs ρ2 acc
def eLc2 (it : EM (List D)) (vs : List Nat) (g : GM) (tt : EM Bool) (it1 : EM (List D)) (vs1 : List Nat) (g1 : GM) (tt1 : EM Bool) (te : EM D) : EM (Tag × List D) := fun ρ => bindE (it ρ) fun ds ρ1 => bindN (lcOut vs g tt it1 vs1 g1 tt1 te ds ρ1 []) fun ys ρ2 => retE (.lst, ys) (wipeR ρ2 vs)
section
variable {κ : Type} [DecidableEq κ] {α : Type}
def putKs (ks : List κ) (k : κ) : List κ := if k ∈ ks then ks else ks ++ [k]
def repl : List κ → List α → κ → α → List α
  | k' :: ks, x :: xs, k, v => (if k' = k then v else x) :: repl ks xs k v
  | _, xs, _, _ => xs
def putDs (ks : List κ) (xs : List α) (k : κ) (v : α) : List α := if k ∈ ks then repl ks xs k v else xs ++ [v]
end
def dcGo (vs : List Nat) (g : GM) (tt : EM Bool) (tk tv : EM D) : List D → Rho → List Key → List D → M (ER (List Key × List D))
  | [], ρ, ks, ds => retE (ks, ds) ρ
  | x :: xs, ρ, ks, ds => match g x (wipeR ρ vs) with
    | none => .stuck
    | some ρ1 => bindN (tt ρ1) fun b ρ2 => if b then bindN (tk ρ2) fun y ρ3 => bindN (tv ρ3) fun z ρ4 => match dKey y with
        | some k => if ks.length < sz then dcGo vs g tt tk tv xs ρ4 (putKs ks k) (putDs ks ds k z) else .stuck
        | none => .stuck
      else dcGo vs g tt tk tv xs ρ2 ks ds
def eDc (it : EM (List D)) (vs : List Nat) (g : GM) (tt : EM Bool) (tk tv : EM D) : EM (Tag × List D) := fun ρ => bindE (it ρ) fun ds ρ1 => bindN (dcGo vs g tt tk tv ds ρ1 [] []) fun p ρ2 => retE (.dct p.1, p.2) (wipeR ρ2 vs)
def eMt (i : Nat) (f : List D → List D → Option (D × List D)) (ma : EM (List D)) : EM D := fun ρ => match ρ[i]? with
  | some (.own .lst _) => bindE (ma ρ) fun as ρ1 => match ρ1[i]? with
    | some (.own .lst ds) => match f ds as with
      | some (d, ds') => fcL ds' fun ds' => fcR (ρ1.set i (.own .lst ds')) fun ρ2 => retE d ρ2
      | none => .stuck
    | _ => .stuck
  | _ => .stuck
def eMt0 (i : Nat) (f : List D → List D → Option (D × List D)) : EM D := fun ρ => match ρ[i]? with
    | some (.own .lst ds) => match f ds [] with
      | some (d, ds') => retE d (ρ.set i (.own .lst ds'))
      | none => .stuck
    | _ => .stuck
def fAppend : List D → List D → Option (D × List D) := fun ds as => match as with
  | [y] => if ds.length < sz then some (.non, ds ++ [y]) else none
  | _ => none
def fExtend : List D → List D → Option (D × List D) := fun ds as => match as with
  | [.node .lst ys] => if ds.length + ys.length ≤ sz then some (.non, ds ++ ys) else none
  | [.node .tup ys] => if ds.length + ys.length ≤ sz then some (.non, ds ++ ys) else none
  | _ => none
def fPop : List D → List D → Option (D × List D) := fun ds as => match as with
  | [] => match ds[ds.length - 1]? with
    | some y => some (y, ds.dropLast)
    | none => none
  | _ => none
def ixPop (n : Nat) (i : Int) : Option Nat := if -9223372036854775808 ≤ i ∧ i < 9223372036854775808 then seqIndex? i n else none
def fPopAt : List D → List D → Option (D × List D) := fun ds as => match as with
  | [.int i] => (ixPop ds.length i).bind fun k => (ds[k]?).map fun y => (y, ds.eraseIdx k)
  | _ => none
def fReverse : List D → List D → Option (D × List D) := fun ds as => match as with
  | [] => some (.non, ds.reverse)
  | _ => none
def putSlot (s : Option Slot) (k d : D) : Option Slot := match s with
  | some (.own .lst ds) => match k with
    | .int n => (ixN ds.length n).map fun j => .own .lst (ds.set j d)
    | _ => none
  | some (.own (.dct ks) ds) => (dKey k).bind fun y => if ks.length < sz then some (.own (.dct (putKs ks y)) (putDs ks ds y d)) else none
  | _ => none
def sPut (i : Nat) (mk mv : EM D) : SM := fun ρ => bindES (mv ρ) fun d ρ1 => match ρ1[i]? with
  | some (.own _ _) => bindES (mk ρ1) fun k ρ2 => match putSlot ρ2[i]? k d with
    | some s => .ret (.nx (ρ2.set i s))
    | none => .stuck
  | _ => .stuck
def putFld (fs : List Str) (ds : List D) (f : Str) (d : D) : Option (List D) := match fs, ds with
  | f' :: _, [] => if f' = f then some [d] else none
  | f' :: fs, d' :: ds => if f' = f then some (d :: ds) else (putFld fs ds f d).map (d' :: ·)
  | [], _ => none
def sFldD (c i : Nat) (f : Str) (mv : EM D) : SM := fun ρ => bindES (mv ρ) fun d ρ1 => match ρ1[i]? with
  | some (.own (.obj c') ds) => if c' = c ∧ (cf c).length < 1000 then match putFld (cf c) ds f d with
    | some ds' => .ret (.nx (ρ1.set i (.own (.obj c) ds')))
    | none => .stuck
    else .stuck
  | _ => .stuck
def e1 (g : D → Option D) (m : EM D) : EM D := fun ρ => bindE (m ρ) fun d ρ1 => optE (g d) ρ1
def f1 (g : D → Option (Tag × List D)) (m : EM D) : EM (Tag × List D) := fun ρ => bindE (m ρ) fun d ρ1 => optE (g d) ρ1
def lenO : D → Option D
  | .str s => if s.length ≤ sz then some (.int s.length) else none
  | .node .lst ds => some (.int ds.length)
  | .node .tup ds => some (.int ds.length)
  | .node (.dct ks) _ => some (.int ks.length)
  | _ => none
def listO : D → Option (Tag × List D)
  | .node .lst ds => some (.lst, ds)
  | .node .tup ds => some (.lst, ds)
  | .node (.dct ks) _ => some (.lst, ks.map dK')
  | _ => none
def tupleO : D → Option D
  | .node .lst ds => some (.node .tup ds)
  | .node .tup ds => some (.node .tup ds)
  | _ => none
def blsD : List D → Option (List Bool)
  | [] => some []
  | .bl b :: ds => (blsD ds).map (b :: ·)
  | _ => none
def intsD : List D → Option (List Int)
  | [] => some []
  | .int b :: ds => (intsD ds).map (b :: ·)
  | _ => none
def lstB (f : List Bool → Option D) : D → Option D
  | .node .lst ds => (blsD ds).bind f
  | _ => none
def lstI (f : List Int → Option D) : D → Option D
  | .node .lst ds => (intsD ds).bind f
  | _ => none
def allB : D → Option D := lstB fun bs => some (.bl (bs.all id))
def anyB : D → Option D := lstB fun bs => some (.bl (bs.any id))
def sumI : List Int → Int
  | [] => 0
  | x :: xs => x + sumI xs
def sumO : D → Option D := lstI fun bs => some (.int (sumI bs))
def int1O : D → Option D
  | .int i => some (.int i)
  | .bl b => some (.int (if b then 1 else 0))
  | _ => none
def maxI : Int → List Int → Int
  | m, [] => m
  | m, x :: xs => maxI (if x > m then x else m) xs
def minI : Int → List Int → Int
  | m, [] => m
  | m, x :: xs => minI (if x < m then x else m) xs
def maxO : D → Option D := lstI fun bs => match bs with
  | [] => none
  | x :: xs => some (.int (maxI x xs))
def minO : D → Option D := lstI fun bs => match bs with
  | [] => none
  | x :: xs => some (.int (minI x xs))
section
variable {α β : Type}
def insS (le : α → α → Bool) (a : α) : List α → List α
  | [] => [a]
  | b :: r => if le a b then a :: b :: r else b :: insS le a r
def isort (le : α → α → Bool) : List α → List α
  | [] => []
  | a :: r => insS le a (isort le r)
end
mutual
def encD : D → PyData
  | .non => .none
  | .bl b => .bool b
  | .int i => .int i
  | .str s => .str s
  | .wld _ => .dict []
  | .node t xs => match t with
    | .lst => .list (encL xs)
    | .tup => .tuple (encL xs)
    | _ => .dict []
def encL : List D → List PyData
  | [] => []
  | d :: ds => encD d :: encL ds
end
mutual
def okS : D → Bool
  | .non => true
  | .bl _ => true
  | .int _ => true
  | .str _ => true
  | .wld _ => false
  | .node t xs => match t with
    | .lst => okSL xs
    | .tup => okSL xs
    | _ => false
def okSL : List D → Bool
  | [] => true
  | d :: ds => okS d && okSL ds
end
def leD (a b : D) : Bool := dataLe false encD a b
def tupHd : PyData → Bool
  | .tuple (_ :: _) => true
  | _ => false
def othHd : PyData → Bool
  | .tuple _ => false
  | .none => false
  | _ => true
def sortOk (ds : List D) : Bool := okSL ds && ((ds.map encD).all fun d => (ds.map encD).all fun e => alike d e) && ((ds.map encD).all tupHd || (ds.map encD).all othHd) && decide (ds.length ≤ sz) && (ds.map encD).all fun d => decide (PyData.depth d ≤ 60)
def sortO : D → Option (Tag × List D)
  | .node .lst ds => if sortOk ds then some (.lst, isort leD ds) else none
  | _ => none
/-- a datum's type: 0 NoneType, 1 bool, 2 int, 3 str, 4 list, 5 tuple, 6 dict, 7 + c an instance of the class c -/
def tyD : D → Option Nat
  | .non => some 0
  | .bl _ => some 1
  | .int _ => some 2
  | .str _ => some 3
  | .wld _ => none
  | .node .lst _ => some 4
  | .node .tup _ => some 5
  | .node (.dct _) _ => some 6
  | .node (.dctT _) _ => some 6
  | .node (.obj c) _ => some (7 + c)
def eIsi (ans : Nat → Option Bool) (m : EM D) : EM D := fun ρ => bindE (m ρ) fun d ρ1 => match tyD d with
  | some k => match ans k with
    | some b => retE (.bl b) ρ1
    | none => .stuck
  | none => .stuck
def e2 (g : D → D → Option D) (ma mb : EM D) : EM D := eBin g ma mb
def max2O : D → D → Option D
  | .int i, .int j => some (.int (if j > i then j else i))
  | _, _ => none
def min2O : D → D → Option D
  | .int i, .int j => some (.int (if j < i then j else i))
  | _, _ => none
def lkF : List Str → List D → Str → Option D
  | g :: fs, d :: ds, f => if f == g then some d else lkF fs ds f
  | _, _, _ => none
def eFld (ok : Nat → Bool) (f : Str) (m : EM D) : EM D := fun ρ => bindE (m ρ) fun d ρ1 => match d with
  | .node (.obj c) ds => if ok c then optE (lkF (cf c) ds f) ρ1 else .stuck
  | _ => .stuck
def eMeth (disp : Nat → Option FM) (np nk : Nat) (gD : List D → List D → List D) (mo : EM D) (ma : EM (List D × List D)) : EM D := fun ρ => bindE (mo ρ) fun d ρ1 => match d with
  | .node (.obj c) _ => match disp c with
    | some m => bindE (ma ρ1) fun p ρ2 => if p.1.length = np ∧ p.2.length = nk then callM (m (gD (d :: p.1) p.2)) ρ2 else .stuck
    | none => .stuck
  | _ => .stuck
abbrev FMI := List D → M (Except Err (List D))
def eMake (c : Nat) (mi : FMI) (np nk : Nat) (gD : List D → List D → List D) (ma : EM (List D × List D)) : EM (Tag × List D) := fun ρ => bindE (ma ρ) fun p ρ1 => if p.1.length = np ∧ p.2.length = nk then (mi (gD p.1 p.2)).bind fun r => .ret (match r with
    | .ok fs => .ok ((.obj c, fs), ρ1)
    | .error e => .error (e, ρ1))
  else .stuck
def startI (c n : Nat) (ds : List D) : Rho := (startR n (.non :: ds)).set 0 (.own (.obj c) [])
def own0 (ρ : Rho) : Option (Nat × List D) := match ρ[(0 : Nat)]? with
  | some (.own (.obj c) fs) => some (c, fs)
  | _ => none
def runI (c n : Nat) (m : SM) : FMI := fun ds => fcL ds fun ds => fcR (startI c n ds) fun ρ => (m ρ).bind fun r => match r with
  | .nx ρ => match own0 ρ with
    | some p => if p.1 = c ∧ whole (.obj c) p.2 = true then .ret (.ok p.2) else .stuck
    | none => .stuck
  | .ex e ρ => match own0 ρ with
    | some _ => .ret (.error e)
    | none => .stuck
  | _ => .stuck
/-- no exception in the slots -/
def noX : Slot → Bool
  | .exc _ _ => false
  | _ => true
def noXs (ρ : Rho) : Bool := ρ.all noX
def sRaise (c : Nat) (m : EM (List D)) : SM := fun ρ => bindES (m ρ) fun ds ρ1 => if ds.length = 1 then .ret (.ex ⟨c, ds⟩ ρ1) else .stuck
structure Hm where
  ans : Nat → Option Bool
  slot : Option Nat
  run : SM
/-- out of a suite -/
def outX (r : SR) : M SR := match r with
  | .ex _ _ => .stuck
  | r => .ret r
def offX (i : Nat) (r : SR) : M SR := match r with
  | .nx ρ => if noXs (ρ.set i .none) then .ret (.nx (ρ.set i .none)) else .stuck
  | .bk ρ => if noXs (ρ.set i .none) then .ret (.bk (ρ.set i .none)) else .stuck
  | .ct ρ => if noXs (ρ.set i .none) then .ret (.ct (ρ.set i .none)) else .stuck
  | .rt d => .ret (.rt d)
  | .ex _ _ => .stuck
def tryGo : List Hm → Err → Rho → M SR
  | [], e, ρ => .ret (.ex e ρ)
  | h :: hs, e, ρ => match h.ans e.c with
    | none => .stuck
    | some false => tryGo hs e ρ
    | some true => match h.slot with
      | none => (h.run ρ).bind outX
      | some i => if noXs ρ then (h.run (ρ.set i (.exc e.c e.fs))).bind (offX i) else .stuck
def sTry (mb : SM) (hs : List Hm) : SM := fun ρ => (mb ρ).bind fun r => match r with
  | .ex e ρ1 => tryGo hs e ρ1
  | r => .ret r
def eXf (ok : Nat → Bool) (i : Nat) (f : Str) : EM D := fun ρ => match ρ[i]? with
  | some (.exc c fs) => if ok c then optE (lkF (cf c) fs f) ρ else .stuck
  | _ => .stuck
/-- obj's own method answers with a truth value -/
def eOwn (disp : Nat → Option FM) (g : Bool → Bool) (o x : D) : EM D := fun ρ => match o with
  | .node (.obj c) _ => match disp c with
    | some m => bindE (callM (m [o, x]) ρ) fun d ρ1 => match d with
      | .bl k => retE (.bl (g k)) ρ1
      | _ => .stuck
    | none => .stuck
  | _ => .stuck
def eIn2 (disp : Nat → Option FM) (g : Bool → Bool) (ma mb : EM D) : EM D := fun ρ => bindE (ma ρ) fun x ρ1 => bindE (mb ρ1) fun o ρ2 => eOwn disp g o x ρ2
def eEq2 (disp : Nat → Option FM) (ma mb : EM D) : EM D := fun ρ => bindE (ma ρ) fun x ρ1 => bindE (mb ρ1) fun y ρ2 => match x, y with
  | .node (.obj c) _, .node (.obj c') _ => if c = c' then eOwn disp id x y ρ2 else .stuck
  | _, _ => .stuck
def cutL {α : Type} (xs : List α) (lo hi : Option Int) : List α := (xs.drop (HT.sIx xs.length 0 lo)).take (HT.sIx xs.length xs.length hi - HT.sIx xs.length 0 lo)
def cutD (d : D) (lo hi : Option Int) : Option D := match d with
  | .node .lst ds => some (.node .lst (cutL ds lo hi))
  | .node .tup ds => some (.node .tup (cutL ds lo hi))
  | .str z => if z.length ≤ sz then some (.str (cutS z lo hi)) else none
  | _ => none
def partO (d : D) : Option (Option Int) := match d with
  | .int i => some (some i)
  | _ => none
def ePn : EM (Option Int) := fun ρ => retE none ρ
def eP1 (m : EM D) : EM (Option Int) := fun ρ => bindE (m ρ) fun d ρ1 => optE (partO d) ρ1
def eSl (me : EM D) (ml mh : EM (Option Int)) : EM D := fun ρ => bindE (me ρ) fun d ρ1 => bindE (ml ρ1) fun lo ρ2 => bindE (mh ρ2) fun hi ρ3 => optE (cutD d lo hi) ρ3
def eStar (ma : EM D) (mr : EM (List D)) : EM (List D) := fun ρ => bindE (ma ρ) fun x ρ1 => match x with
  | .node .lst ds => bindE (mr ρ1) fun xs ρ2 => retE (ds ++ xs) ρ2
  | .node .tup ds => bindE (mr ρ1) fun xs ρ2 => retE (ds ++ xs) ρ2
  | _ => .stuck
def enD : Nat → List D → List D
  | _, [] => []
  | i, d :: ds => .node .tup [.int i, d] :: enD (i + 1) ds
def enumO : D → Option (List D)
  | .node .lst ds => some (enD 0 ds)
  | .node .tup ds => some (enD 0 ds)
  | _ => none
def eEnum (m : EM D) : EM (List D) := fun ρ => bindE (m ρ) fun d ρ1 => optE (enumO d) ρ1
def ixGo (y : PyData) : List D → Nat → Option Nat
  | [], _ => none
  | d :: ds, j => if PyData.eqv (encD d) y then some j else ixGo y ds (j + 1)
def indexO (o y : D) : Option D := match o with
  | .node .lst ds => if okSL ds && okS y && SeqAt.shaped (.list (encL ds)) && SeqAt.shaped (encD y) then (ixGo (encD y) ds 0).map fun (j : Nat) => D.int (Int.ofNat j) else none
  | _ => none
def eIndex (mo : EM D) (ma : EM D) : EM D := fun ρ => bindE (mo ρ) fun o ρ1 => match o with
  | .node .lst _ => bindE (ma ρ1) fun y ρ2 => optE (indexO o y) ρ2
  | _ => .stuck
def ePairs : List (EM D × EM D) → List Key → List D → EM (List Key × List D)
  | [], ks, ds => fun ρ => retE (ks, ds) ρ
  | p :: r, ks, ds => fun ρ => bindE (p.1 ρ) fun x ρ1 => bindE (p.2 ρ1) fun y ρ2 => match dKey x with
    | some k => ePairs r (putKs ks k) (putDs ks ds k y) ρ2
    | none => .stuck
def eDisp (ms : List (EM D × EM D)) : EM (Tag × List D) := fun ρ => bindE (ePairs ms [] [] ρ) fun p ρ1 => retE (.dct p.1, p.2) ρ1
abbrev modG : D → D → Option D := intO fun i j => if 0 < j then some (i % j) else none
abbrev fdivG : D → D → Option D := intO fun i j => if 0 < j ∧ j < 1073741824 then some (i / j) else none
abbrev powG : D → D → Option D := intO fun i j => if 0 ≤ j ∧ j ≤ 1000000 ∧ i.natAbs < 2 ^ 64 then some (i ^ j.toNat) else none
def negO : D → Option D
  | .int i => some (.int (-i))
  | _ => none
def eNeg (m : EM D) : EM D := fun ρ => bindE (m ρ) fun d ρ1 => optE (negO d) ρ1
def isi_int : Nat → Option Bool := fun k => if k < 7 then some (k == 1 || k == 2) else none
def isi_bool : Nat → Option Bool := fun k => if k < 7 then some (k == 1) else none
def isi_str : Nat → Option Bool := fun k => if k < 7 then some (k == 3) else none
def isi_list : Nat → Option Bool := fun k => if k < 7 then some (k == 4) else none
def isi_tuple : Nat → Option Bool := fun k => if k < 7 then some (k == 5) else none
def isi_dict : Nat → Option Bool := fun k => if k < 7 then some (k == 6) else none
def isi_list_tuple : Nat → Option Bool := fun k => if k < 7 then some (k == 4 || k == 5) else none
def m_draw : FM := fun ds => match ds with
  | [.wld 0, .int n] => if n < 1073741824 then .draw n fun r => .ret (.ok (.int r)) else .stuck
  | _ => .stuck
def startL (n ip : Nat) : Rho := (List.replicate n Slot.none).set ip (.val (.wld 0))
def isTrueR : SR → Bool
  | .rt (.bl true) => true
  | _ => false
/-- what a law's mirror is to show -/
structure LawOk (n ip : Nat) (m : SM) : Prop where
  go : (m (startL n ip)).wp fun r => isTrueR r = true
def allB' (n : Nat) (p : Nat → Bool) : Bool := Nat.rec true (fun k r => p k && r) n
def chk {α : Type} (p : α → Bool) : M α → Bool
  | .ret a => p a
  | .stuck => false
  | .draw n k => match n with
    | .ofNat m => !(Nat.beq m 0) && allB' m fun i => chk p (k (Int.ofNat i))
    | .negSucc _ => false
def follow {α : Type} : M α → List Nat → M α
  | m, [] => m
  | .draw _ k, i :: r => follow (k (Int.ofNat i)) r
  | _, _ => .stuck
def isDraw {α : Type} (m : M α) (n : Nat) : Bool := match m with
  | .draw (.ofNat k) _ => Nat.beq k n
  | _ => false
/-! ### [a, ..] * n, sep.join(texts) -/
def repO (p : Tag × List D) : D → Option (Tag × List D)
  | .int k => match p.1 with
    | .lst => if -(2 ^ 63) ≤ k ∧ k < 2 ^ 63 ∧ p.2.length * k.toNat ≤ sz then some (.lst, (List.replicate k.toNat p.2).flatten) else none
    | _ => none
  | _ => none
def eRep (m : EM (Tag × List D)) (q : Rho → Option D) : EM (Tag × List D) := fun ρ => bindE (m ρ) fun p ρ1 => optE ((q ρ1).bind (repO p)) ρ1
def strsD : List D → Option (List Str)
  | [] => some []
  | .str s :: ds => (strsD ds).map (s :: ·)
  | _ => none
def joinL (a : Str) (ds : List D) : Option D := (strsD ds).bind fun ys => if (ys.map (·.length)).sum + ys.length * a.length ≤ 16777216 then some (.str (Txt.join a ys)) else none
def joinO (a : Str) : D → Option D
  | .node .lst ds => joinL a ds
  | .node .tup ds => joinL a ds
  | _ => none
def goJ (k : Str → M (ER D)) : D → M (ER D)
  | .str a => k a
  | _ => .stuck
def eJoin (mo m : EM D) : EM D := fun ρ => bindE (mo ρ) fun x ρ1 => goJ (fun a => bindE (m ρ1) fun y ρ2 => optE (joinO a y) ρ2) x
/-! ### a + b as a new list -/
def catO : D → D → Option (Tag × List D)
  | .node .lst xs, .node .lst ys => if xs.length + ys.length ≤ sz then some (.lst, xs ++ ys) else none
  | _, _ => none
def eCat (ma mb : EM D) : EM (Tag × List D) := fun ρ => bindE (ma ρ) fun x ρ1 => bindE (mb ρ1) fun y ρ2 => optE (catO x y) ρ2
end DL

/-! D0: plain data D, the tree of runs M, how data lies in the abstract heap (Rep), frames of slots (Rel). -/
namespace DL
open PySem PySem.Spec PyProof.Rows L2

/-! ### runs -/
/-! ### slots -/
/-! ### values are worked out (for computing): k d, told anew -/
section
universe u
variable {β : Type u}
end

/-! ### how data lies in the heap: what is data is locked for good (frz), so it stays whatever is done -/
abbrev WM := Addr → Option Nat
/-- the fields of the classes of the program, by number -/
structure Ly (K : PySem.W.Frag) where
  CA : Nat → Addr
  opin : Addr → Prop
  xa : Addr
  xc : Value
  xd : Option Addr
  wok : WM → Nat → Hp → Addr → Prop
  wst : ∀ W k (H H' : Hp) a, W a = some k → (∀ b o, H b = some o → ¬ Mut (some o) → H' b = some o) → (∀ b, (W b).isSome = true → H' b = H b) → wok W k H a → wok W k H' a
  wmu : ∀ W k (H : Hp) a, wok W k H a → Mut (H a)

section
variable {K : PySem.W.Frag} (L : Ly K)
/-- data's object at an address: a node's tag, its parts vs -/
def At (H : Hp) (a : Addr) : Tag → List V → Prop
  | .lst, vs => ∃ o, H a = some (.frz o (.lst vs))
  | .tup, vs => SqT K H a vs
  | .dct ks, vs => ks.length = vs.length ∧ ∃ o, H a = some (.frz o (.dK (ks.zip vs)))
  | .dctT ks, vs => ks.length = vs.length ∧ ∃ o, H a = some (.frz o (.dT (ks.zip vs)))
  | .obj c, vs => (cf c).length = vs.length ∧ ∃ o dx, H a = some (.frz o (.ins (L.CA c) dx ((cf c).zip vs)))
/-- an own object: it may be written -/
def OAt (H : Hp) (a : Addr) : Tag → List V → Prop
  | .lst, vs => H a = some (.lst vs)
  | .tup, _ => False
  | .dct ks, vs => ks.length = vs.length ∧ H a = some (.dK (ks.zip vs))
  | .dctT ks, vs => ks.length = vs.length ∧ H a = some (.dT (ks.zip vs))
  | .obj c, vs => vs.length ≤ (cf c).length ∧ ∃ dx, L.opin a ∧ H a = some (.ins (L.CA c) dx ((cf c).zip vs))
mutual
def Rep (W : WM) (H : Hp) : D → V → Prop
  | .non, v => v = .non
  | .bl b, v => v = .bl b
  | .int i, v => v = .int i
  | .str s, v => v = .str s
  | .wld k, v => ∃ a, v = .ref a ∧ W a = some k
  | .node t ds, v => ∃ a vs, v = .ref a ∧ At L H a t vs ∧ RepL W H ds vs
def RepL (W : WM) (H : Hp) : List D → List V → Prop
  | [], vs => vs = []
  | d :: ds, vs => ∃ v r, vs = v :: r ∧ Rep W H d v ∧ RepL W H ds r
end
end
/-- what stays: all that may not be written -/
structure Tr (W : WM) (H : Hp) (W' : WM) (H' : Hp) : Prop where
  keep : ∀ b o, H b = some o → ¬ Mut (some o) → H' b = some o
  wld : ∀ b k, W b = some k → W' b = some k
theorem Tr.refl {W : WM} {H : Hp} : Tr W H W H := ⟨fun _ _ e _ => e, fun _ _ e => e⟩
theorem Tr.trans {W W1 W2 : WM} {H H1 H2 : Hp} (x : Tr W H W1 H1) (y : Tr W1 H1 W2 H2) : Tr W H W2 H2 :=
  ⟨fun b o e h => y.keep b o (x.keep b o e h) h, fun b k e => y.wld b k (x.wld b k e)⟩
theorem mut_some {H : Hp} {b : Addr} (h : Mut (H b)) : ∃ o, H b = some o := by
  cases e : H b with
  | none => rw [e] at h; exact h.elim
  | some o => exact ⟨o, rfl⟩
theorem mut_ne {H : Hp} {b p : Addr} (h : Mut (H b)) (hp : H p = none) : b ≠ p := fun e => by
  rw [e, hp] at h; exact h.elim
theorem Tr.upd_new {W : WM} {H : Hp} {p : Addr} {o : HO} (hp : H p = none) : Tr W H W (upd H p o) := ⟨fun b u e _ => by rw [upd_ne (ne_of_none e hp)]; exact e, fun _ _ e => e⟩
theorem Tr.upd_mut {W : WM} {H : Hp} {p : Addr} {o : HO} (hp : Mut (H p)) : Tr W H W (upd H p o) := ⟨fun b u e n => by
  by_cases hb : b = p
  · subst hb; rw [e] at hp; exact absurd hp n
  · rw [upd_ne hb]; exact e, fun _ _ e => e⟩

section
variable {K : PySem.W.Frag} {L : Ly K} {W W' : WM} {H H' : Hp}
theorem SqT.tr {K : PySem.W.Frag} {a : Addr} {vs : List V} (x : Tr W H W' H') (h : SqT K H a vs) : SqT K H' a vs := by
  rcases h with (h | ⟨o, h⟩) | h
  · exact .inl (.inl (x.keep _ _ h fun z => z))
  · exact .inl (.inr ⟨o, x.keep _ _ h fun z => z⟩)
  · exact .inr h
theorem At.tr {a : Addr} {t : Tag} {vs : List V} (x : Tr W H W' H') (h : At L H a t vs) : At L H' a t vs := by
  cases t with
  | lst =>
    obtain ⟨o, e⟩ := h
    exact ⟨o, x.keep _ _ e fun z => z⟩
  | tup => exact SqT.tr x h
  | dct ks =>
    obtain ⟨l, o, e⟩ := h
    exact ⟨l, o, x.keep _ _ e fun z => z⟩
  | dctT ks =>
    obtain ⟨l, o, e⟩ := h
    exact ⟨l, o, x.keep _ _ e fun z => z⟩
  | obj c =>
    obtain ⟨l, o, dx, e⟩ := h
    exact ⟨l, o, dx, x.keep _ _ e fun z => z⟩
mutual
theorem Rep.tr (x : Tr W H W' H') : ∀ {d : D} {v : V}, Rep L W H d v → Rep L W' H' d v
  | .non, _, h => h
  | .bl _, _, h => h
  | .int _, _, h => h
  | .str _, _, h => h
  | .wld _, _, ⟨a, e, w⟩ => ⟨a, e, x.wld _ _ w⟩
  | .node _ _, _, ⟨a, vs, e, t, r⟩ => ⟨a, vs, e, t.tr x, RepL.tr x r⟩
theorem RepL.tr (x : Tr W H W' H') : ∀ {ds : List D} {vs : List V}, RepL L W H ds vs → RepL L W' H' ds vs
  | [], _, h => h
  | _ :: _, _, ⟨v, r, e, h, t⟩ => ⟨v, r, e, Rep.tr x h, RepL.tr x t⟩
end
theorem RepL.length : ∀ {ds : List D} {vs : List V}, RepL L W H ds vs → vs.length = ds.length
  | [], _, h => by rw [show _ = [] from h]; rfl
  | _ :: ds, _, ⟨v, r, e, _, t⟩ => by rw [e]; simp [RepL.length t]
theorem RepL.append : ∀ {ds es : List D} {vs us : List V}, RepL L W H ds vs → RepL L W H es us → RepL L W H (ds ++ es) (vs ++ us)
  | [], _, vs, _, h, h' => by rw [show vs = [] from h]; exact h'
  | _ :: _, _, _, _, ⟨v, r, e, h, t⟩, h' => by
    subst e
    exact ⟨v, _, rfl, h, RepL.append t h'⟩
theorem RepL.get : ∀ {ds : List D} {vs : List V} {i : Nat} {d : D}, RepL L W H ds vs → ds[i]? = some d → ∃ v, vs[i]? = some v ∧ Rep L W H d v
  | [], _, _, _, _, e => by simp at e
  | d :: ds, _, 0, _, ⟨v, r, e, h, t⟩, q => by
    subst e
    simp at q
    subst q
    exact ⟨v, rfl, h⟩
  | d :: ds, _, i + 1, _, ⟨v, r, e, h, t⟩, q => by
    subst e
    obtain ⟨u, h1, h2⟩ := RepL.get (i := i) t (by simpa using q)
    exact ⟨u, by simpa using h1, h2⟩
theorem RepL.getV : ∀ {ds : List D} {vs : List V} {i : Nat} {v : V}, RepL L W H ds vs → vs[i]? = some v → ∃ d, ds[i]? = some d ∧ Rep L W H d v := fun {ds vs i v} h e => by
  have hl := h.length
  have hi : i < ds.length := by
    rw [← hl]
    exact (List.getElem?_eq_some_iff.mp e).1
  obtain ⟨u, h1, h2⟩ := h.get (i := i) (d := ds[i]) (by simp [hi])
  rw [e] at h1
  cases h1
  exact ⟨_, by simp [hi], h2⟩
theorem RepL.set : ∀ {ds : List D} {vs : List V} {d : D} {v : V} (i : Nat), RepL L W H ds vs → Rep L W H d v → RepL L W H (ds.set i d) (vs.set i v)
  | [], vs, _, _, _, h, _ => by rw [show vs = [] from h]; exact rfl
  | _ :: _, _, _, _, 0, ⟨v, r, e, h, t⟩, h' => by
    subst e
    exact ⟨_, r, rfl, h', t⟩
  | _ :: _, _, _, _, i + 1, ⟨v, r, e, h, t⟩, h' => by
    subst e
    exact ⟨v, _, rfl, h, RepL.set i t h'⟩
theorem RepL.take : ∀ {ds : List D} {vs : List V} (n : Nat), RepL L W H ds vs → RepL L W H (ds.take n) (vs.take n)
  | [], vs, n, h => by rw [show vs = [] from h]; simp; exact rfl
  | _ :: _, _, 0, _ => rfl
  | _ :: _, _, n + 1, ⟨v, r, e, h, t⟩ => by
    subst e
    exact ⟨v, _, rfl, h, RepL.take n t⟩
theorem RepL.drop : ∀ {ds : List D} {vs : List V} (n : Nat), RepL L W H ds vs → RepL L W H (ds.drop n) (vs.drop n)
  | [], vs, n, h => by rw [show vs = [] from h]; simp; exact rfl
  | _ :: _, _, 0, h => h
  | _ :: _, _, n + 1, ⟨v, r, e, h, t⟩ => by
    subst e
    exact RepL.drop n t
end

/-! ### the frame -/
/-- an exception's class and fields -/
def ERep {K : PySem.W.Frag} (L : Ly K) (W : WM) (H : Hp) (e : Err) (c : Value) : Option Addr → Prop
  | none => c = .ref (L.CA e.c) ∧ e.fs = []
  | some a => c = .ref (L.CA e.c) ∧ ∃ vs, H a = some (.xd ((cf e.c).zip vs)) ∧ (cf e.c).length = vs.length ∧ RepL L W H e.fs vs
theorem ERep.tr {e : Err} {c : Value} (x : Tr W H W' H') : ∀ {dd : Option Addr}, ERep L W H e c dd → ERep L W' H' e c dd
  | none, h => h
  | some _, ⟨h1, vs, h2, h3, h4⟩ => ⟨h1, vs, x.keep _ _ h2 fun z => z, h3, h4.tr x⟩
/-- a slot: the own ones by their addresses -/
def SlotR {K : PySem.W.Frag} (L : Ly K) (W : WM) (H : Hp) (x : Option (Option V)) (a : Addr) : Slot → Prop
  | .none => True
  | .val d => ∃ v, x = some (some v) ∧ Rep L W H d v
  | .own t ds => x = some (some (.ref a)) ∧ ∃ vs, OAt L H a t vs ∧ RepL L W H ds vs
  | .exc c fs => x = some (some (.ref L.xa)) ∧ ERep L W H ⟨c, fs⟩ L.xc L.xd
def Own (ρ : Rho) (oa : Nat → Addr) (b : Addr) : Prop := ∃ i t ds, ρ[i]? = some (Slot.own t ds) ∧ oa i = b
/-- the wild objects are what they are -/
def WOk {K : PySem.W.Frag} (L : Ly K) (W : WM) (H : Hp) : Prop := ∀ b k, W b = some k → L.wok W k H b
structure RelF {K : PySem.W.Frag} (L : Ly K) (B : Addr → Prop) (W : WM) (H : Hp) (σ : L2.St) (ρ : Rho) (oa : Nat → Addr) : Prop where
  len : ρ.length = σ.length
  ok : WOk L W H
  sl : ∀ i s, ρ[i]? = some s → SlotR L W H σ[i]? (oa i) s
  inj : ∀ i j t ds t' ds', ρ[i]? = some (Slot.own t ds) → ρ[j]? = some (Slot.own t' ds') → oa i = oa j → i = j
  bo : ∀ b, B b → H b ≠ none ∧ W b = none ∧ ¬ Own ρ oa b
  ow : ∀ b, Own ρ oa b → W b = none
def Rel {K : PySem.W.Frag} (L : Ly K) (B : Addr → Prop) (W : WM) (H : Hp) (σ : L2.St) (ρ : Rho) : Prop := ∃ oa, RelF L B W H σ ρ oa
/-- steps of a frame -/
structure Stp (B : Addr → Prop) (W : WM) (H : Hp) (W' : WM) (H' : Hp) : Prop where
  tr : Tr W H W' H'
  kb : ∀ b, B b → H' b = H b
theorem Stp.refl {B : Addr → Prop} {W : WM} {H : Hp} : Stp B W H W H := ⟨Tr.refl, fun _ _ => rfl⟩
theorem Stp.trans {B : Addr → Prop} {W W1 W2 : WM} {H H1 H2 : Hp} (x : Stp B W H W1 H1) (y : Stp B W1 H1 W2 H2) : Stp B W H W2 H2 :=
  ⟨x.tr.trans y.tr, fun b h => (y.kb b h).trans (x.kb b h)⟩
end DL

/-! D1: the frame's relation under steps. -/
namespace DL
open PySem PySem.Spec PyProof.Rows L2
section
variable {K : PySem.W.Frag} {L : Ly K} {B : Addr → Prop} {W W' : WM} {H H' : Hp} {σ : L2.St} {ρ : Rho} {oa : Nat → Addr} {i : Nat} {d : D} {v : V} {t t' : Tag} {ds ds' : List D} {vs vs' : List V} {p : Addr} {o : HO}

theorem OAt.mut {a : Addr} (h : OAt L H a t vs) : Mut (H a) := by
  cases t with
  | lst => rw [show H a = _ from h]; trivial
  | tup => exact h.elim
  | dct ks => rw [h.2]; trivial
  | dctT ks => rw [h.2]; trivial
  | obj c =>
    obtain ⟨_, dx, _, e⟩ := h
    rw [e]; trivial
theorem OAt.at {a : Addr} (h : OAt L H a t vs) (e : H' a = H a) : OAt L H' a t vs := by
  cases t with
  | lst => exact e.trans h
  | tup => exact h
  | dct ks => exact ⟨h.1, e.trans h.2⟩
  | dctT ks => exact ⟨h.1, e.trans h.2⟩
  | obj c =>
    obtain ⟨l, dx, pp, q⟩ := h
    exact ⟨l, dx, pp, e.trans q⟩
/-- locked, it is data -/
theorem OAt.frz {a : Addr} {od : Obj} (h : OAt L H a t vs) (e : H a = some o) (q : H' a = some (.frz od o)) (hc : ∀ c, t = .obj c → (cf c).length = vs.length) : At L H' a t vs := by
  cases t with
  | lst =>
    rw [show H a = _ from h] at e
    cases e
    exact ⟨od, q⟩
  | tup => exact h.elim
  | dct ks =>
    rw [h.2] at e
    cases e
    exact ⟨h.1, od, q⟩
  | dctT ks =>
    rw [h.2] at e
    cases e
    exact ⟨h.1, od, q⟩
  | obj c =>
    obtain ⟨l, dx, _, z⟩ := h
    rw [z] at e
    cases e
    exact ⟨hc c rfl, od, dx, q⟩
theorem RelF.slo (R : RelF L B W H σ ρ oa) (e : ρ[i]? = some (Slot.own t ds)) : σ[i]? = some (some (.ref (oa i))) ∧ ∃ vs, OAt L H (oa i) t vs ∧ RepL L W H ds vs := R.sl i _ e
theorem RelF.slv (R : RelF L B W H σ ρ oa) (e : ρ[i]? = some (Slot.val d)) : ∃ v, σ[i]? = some (some v) ∧ Rep L W H d v := R.sl i _ e
theorem RelF.omu (R : RelF L B W H σ ρ oa) {b : Addr} (h : Own ρ oa b) : Mut (H b) := by
  obtain ⟨i, t, ds, e, q⟩ := h
  obtain ⟨_, vs, h2, _⟩ := R.slo e
  rw [← q]; exact h2.mut
theorem RelF.wmu (R : RelF L B W H σ ρ oa) {b : Addr} {k : Nat} (h : W b = some k) : Mut (H b) := L.wmu _ _ _ _ (R.ok b k h)
theorem WOk.same (h : WOk L W H) (t : ∀ b o, H b = some o → ¬ Mut (some o) → H' b = some o) (e : ∀ b, (W b).isSome = true → H' b = H b) : WOk L W H' := fun b k q => L.wst _ _ _ _ _ q t e (h b k q)
theorem SlotR.tr {x : Option (Option V)} {a : Addr} {s : Slot} (h : SlotR L W H x a s) (x1 : Tr W H W' H') (e : ∀ t ds, s = Slot.own t ds → H' a = H a) : SlotR L W' H' x a s := by
  cases s with
  | none => trivial
  | val d =>
    obtain ⟨v, h1, h2⟩ := h
    exact ⟨v, h1, h2.tr x1⟩
  | own t ds =>
    obtain ⟨h1, vs, h2, h3⟩ := h
    exact ⟨h1, vs, h2.at (e t ds rfl), h3.tr x1⟩
  | exc c fs => exact ⟨h.1, h.2.tr x1⟩
/-- a change that leaves the wild, the own and B's objects -/
theorem RelF.keep (R : RelF L B W H σ ρ oa) (x : Tr W H W H') (e : ∀ b, Mut (H b) → H' b = H b) : RelF L B W H' σ ρ oa where
  len := R.len
  ok := R.ok.same x.keep fun b h => by
    obtain ⟨k, hk⟩ := Option.isSome_iff_exists.mp h
    exact e b (R.wmu hk)
  sl := fun i s q => (R.sl i s q).tr x fun t ds z => e _ (R.omu ⟨i, t, ds, by rw [q, z], rfl⟩)
  inj := R.inj
  bo := fun b h => by
    obtain ⟨h1, h2⟩ := R.bo b h
    refine ⟨?_, h2⟩
    obtain ⟨o, ho⟩ := Option.ne_none_iff_exists'.mp h1
    by_cases m : Mut (some o)
    · rw [e b (by rw [ho]; exact m)]; exact h1
    · rw [x.keep b o ho m]; simp
  ow := R.ow
theorem RelF.alloc (R : RelF L B W H σ ρ oa) (hp : H p = none) : RelF L B W (upd H p o) σ ρ oa :=
  R.keep (Tr.upd_new hp) fun b h => upd_ne (mut_ne h hp)
theorem Stp.alloc (R : RelF L B W H σ ρ oa) (hp : H p = none) : Stp B W H W (upd H p o) :=
  ⟨Tr.upd_new hp, fun b h => upd_ne fun e => (R.bo b h).1 (by rw [e]; exact hp)⟩
theorem own_set {s : Slot} {b : Addr} (hs : ∀ t ds, s ≠ Slot.own t ds) (h : Own (ρ.set i s) oa b) : Own ρ oa b := by
  obtain ⟨j, t, ds, e, q⟩ := h
  by_cases hj : i = j
  · subst hj
    by_cases hi : i < ρ.length
    · rw [List.getElem?_set_self hi] at e
      exact absurd (Option.some.inj e) (hs t ds)
    · rw [List.set_eq_of_length_le (Nat.le_of_not_lt hi)] at e
      exact ⟨i, t, ds, e, q⟩
  · rw [List.getElem?_set_ne hj] at e
    exact ⟨j, t, ds, e, q⟩
/-- a slot is set to data (whatever it was) -/
theorem RelF.putV (R : RelF L B W H σ ρ oa) (i : Nat) (h : Rep L W H d v) : RelF L B W H (σ.set i (some v)) (ρ.set i (Slot.val d)) oa := by
  have os : ∀ {b}, Own (ρ.set i (Slot.val d)) oa b → Own ρ oa b := fun z => own_set (fun _ _ z => by cases z) z
  refine ⟨by simp [R.len], R.ok, fun j s q => ?_, fun j k t1 ds1 t2 ds2 e1 e2 e3 => ?_, fun b z => ⟨(R.bo b z).1, (R.bo b z).2.1, fun y => (R.bo b z).2.2 (os y)⟩, fun b z => R.ow b (os z)⟩
  · by_cases hj : i = j
    · subst hj
      by_cases il : i < ρ.length
      · rw [List.getElem?_set_self il] at q
        cases q
        rw [List.getElem?_set_self (by rw [← R.len]; exact il)]
        exact ⟨v, rfl, h⟩
      · rw [List.getElem?_eq_none (by simpa using il)] at q
        cases q
    · rw [List.getElem?_set_ne hj] at q ⊢
      exact R.sl j s q
  · have f : ∀ {j t ds}, (ρ.set i (Slot.val d))[j]? = some (Slot.own t ds) → ρ[j]? = some (Slot.own t ds) := fun {j t ds} e => by
      by_cases hj : i = j
      · subst hj
        by_cases hi : i < ρ.length
        · rw [List.getElem?_set_self hi] at e
          cases e
        · rw [List.getElem?_eq_none (by simpa using hi)] at e
          cases e
      · rw [List.getElem?_set_ne hj] at e
        exact e
    exact R.inj j k t1 ds1 t2 ds2 (f e1) (f e2) e3
/-- a slot is forgotten -/
theorem RelF.drop (R : RelF L B W H σ ρ oa) (i : Nat) (x : Option V) : RelF L B W H (σ.set i x) (ρ.set i Slot.none) oa := by
  have os : ∀ {b}, Own (ρ.set i Slot.none) oa b → Own ρ oa b := fun z => own_set (fun _ _ z => by cases z) z
  refine ⟨by simp [R.len], R.ok, fun j s q => ?_, fun j k t1 ds1 t2 ds2 e1 e2 e3 => ?_, fun b z => ⟨(R.bo b z).1, (R.bo b z).2.1, fun y => (R.bo b z).2.2 (os y)⟩, fun b z => R.ow b (os z)⟩
  · by_cases hj : i = j
    · subst hj
      by_cases il : i < ρ.length
      · rw [List.getElem?_set_self il] at q
        cases q
        trivial
      · rw [List.getElem?_eq_none (by simpa using il)] at q
        cases q
    · rw [List.getElem?_set_ne hj] at q ⊢
      exact R.sl j s q
  · have f : ∀ {j t ds}, (ρ.set i Slot.none)[j]? = some (Slot.own t ds) → ρ[j]? = some (Slot.own t ds) := fun {j t ds} e => by
      by_cases hj : i = j
      · subst hj
        by_cases hi : i < ρ.length
        · rw [List.getElem?_set_self hi] at e
          cases e
        · rw [List.getElem?_eq_none (by simpa using hi)] at e
          cases e
      · rw [List.getElem?_set_ne hj] at e
        exact e
    exact R.inj j k t1 ds1 t2 ds2 (f e1) (f e2) e3
/-- a slot takes an own object that stands at p, which neither slots nor the wild nor B have -/
theorem RelF.putO (R : RelF L B W H σ ρ oa) (i : Nat) (hi : i < ρ.length) (nB : ¬ B p) (nW : W p = none) (nO : ¬ Own ρ oa p) (ha : OAt L H p t vs) (h : RepL L W H ds vs) :
    RelF L B W H (σ.set i (some (.ref p))) (ρ.set i (Slot.own t ds)) (fun j => if j = i then p else oa j) := by
  generalize hoa : (fun j => if j = i then p else oa j) = oa'
  have oi : oa' i = p := by rw [← hoa]; simp
  have oj : ∀ j, j ≠ i → oa' j = oa j := fun j hj => by rw [← hoa]; simp [hj]
  have f : ∀ {j t' ds'}, (ρ.set i (Slot.own t ds))[j]? = some (Slot.own t' ds') → j = i ∨ (j ≠ i ∧ ρ[j]? = some (Slot.own t' ds')) := fun {j t' ds'} e => by
    by_cases hj : i = j
    · exact .inl hj.symm
    · rw [List.getElem?_set_ne hj] at e
      exact .inr ⟨fun z => hj z.symm, e⟩
  have fo : ∀ b, Own (ρ.set i (Slot.own t ds)) oa' b → b = p ∨ Own ρ oa b := by
    rintro b ⟨j, t', ds', e, q⟩
    rcases f e with z | ⟨z, e⟩
    · subst z
      exact .inl (q.symm.trans oi)
    · exact .inr ⟨j, t', ds', e, (oj j z).symm.trans q⟩
  refine ⟨by simp [R.len], R.ok, fun j s q => ?_, fun j k t1 ds1 t2 ds2 e1 e2 e3 => ?_, fun b z => ⟨(R.bo b z).1, (R.bo b z).2.1, fun q => ?_⟩, fun b z => ?_⟩
  · by_cases hj : i = j
    · subst hj
      rw [List.getElem?_set_self hi] at q
      cases q
      rw [List.getElem?_set_self (by rw [← R.len]; exact hi)]
      refine ⟨by rw [oi], vs, ?_, h⟩
      rw [oi]; exact ha
    · rw [List.getElem?_set_ne hj] at q ⊢
      rw [oj j (Ne.symm hj)]
      exact R.sl j s q
  · rcases f e1 with z1 | ⟨z1, q1⟩ <;> rcases f e2 with z2 | ⟨z2, q2⟩
    · rw [z1, z2]
    · rw [z1, oi, oj k z2] at e3
      exact absurd ⟨k, _, _, q2, e3.symm⟩ nO
    · rw [z2, oi, oj j z1] at e3
      exact absurd ⟨j, _, _, q1, e3⟩ nO
    · rw [oj j z1, oj k z2] at e3
      exact R.inj j k _ _ _ _ q1 q2 e3
  · rcases fo b q with q | q
    · rw [q] at z; exact nB z
    · exact (R.bo b z).2.2 q
  · rcases fo b z with z | z
    · rw [z]; exact nW
    · exact R.ow b z
/-- the object of an owning slot is written -/
theorem RelF.write (R : RelF L B W H σ ρ oa) (hi : ρ[i]? = some (Slot.own t ds)) (ha : OAt L (upd H (oa i) o) (oa i) t' vs') (h : RepL L W H ds' vs') :
    RelF L B W (upd H (oa i) o) σ (ρ.set i (Slot.own t' ds')) oa ∧ Stp B W H W (upd H (oa i) o) := by
  have il : i < ρ.length := (List.getElem?_eq_some_iff.mp hi).1
  have own : Own ρ oa (oa i) := ⟨i, t, ds, hi, rfl⟩
  have f : ∀ {j t1 ds1}, (ρ.set i (Slot.own t' ds'))[j]? = some (Slot.own t1 ds1) → ∃ t2 ds2, ρ[j]? = some (Slot.own t2 ds2) := fun {j t1 ds1} e => by
    by_cases hj : i = j
    · subst hj
      exact ⟨_, _, hi⟩
    · rw [List.getElem?_set_ne hj] at e
      exact ⟨_, _, e⟩
  have fo : ∀ b, Own (ρ.set i (Slot.own t' ds')) oa b → Own ρ oa b := by
    rintro b ⟨j, t1, ds1, e, q⟩
    obtain ⟨t2, ds2, e2⟩ := f e
    exact ⟨j, t2, ds2, e2, q⟩
  have mo : Mut (H (oa i)) := R.omu own
  have x : Tr W H W (upd H (oa i) o) := Tr.upd_mut mo
  have nB : ∀ b, B b → b ≠ oa i := fun b z e => (R.bo b z).2.2 (by rw [e]; exact own)
  have nW : ∀ b, (W b).isSome = true → b ≠ oa i := fun b z e => by
    rw [e, R.ow _ own] at z
    cases z
  refine ⟨⟨by simp [R.len], R.ok.same x.keep fun b z => upd_ne (nW b z), fun j s q => ?_, fun j k t1 ds1 t2 ds2 e1 e2 e3 => ?_, fun b z => ⟨?_, (R.bo b z).2.1, fun y => (R.bo b z).2.2 (fo b y)⟩, fun b z => R.ow b (fo b z)⟩, x, fun b z => upd_ne (nB b z)⟩
  · by_cases hj : i = j
    · subst hj
      rw [List.getElem?_set_self il] at q
      cases q
      exact ⟨(R.slo hi).1, vs', ha, h.tr x⟩
    · rw [List.getElem?_set_ne hj] at q
      refine (R.sl j s q).tr x fun t2 ds2 z => upd_ne fun e => ?_
      exact hj (R.inj i j t ds t2 ds2 hi (by rw [q, z]) e.symm)
  · obtain ⟨_, _, q1⟩ := f e1
    obtain ⟨_, _, q2⟩ := f e2
    exact R.inj j k _ _ _ _ q1 q2 e3
  · rw [upd_ne (nB b z)]; exact (R.bo b z).1
/-- an object that is neither wild nor own nor of B is locked (or written) -/
theorem RelF.lockT (R : RelF L B W H σ ρ oa) (hm : Mut (H p)) (nB : ¬ B p) (nW : W p = none) (nO : ¬ Own ρ oa p) : RelF L B W (upd H p o) σ ρ oa ∧ Stp B W H W (upd H p o) := by
  have x : Tr W H W (upd H p o) := Tr.upd_mut hm
  have hB : ∀ b, B b → b ≠ p := fun b z e => nB (by rw [← e]; exact z)
  refine ⟨⟨R.len, R.ok.same x.keep (fun b z => upd_ne fun e => by (rw [e, nW] at z; cases z)), fun j s q => (R.sl j s q).tr x fun t ds z => upd_ne fun e => nO ⟨j, t, ds, by rw [q, z], e⟩, R.inj, fun b z => ⟨by rw [upd_ne (hB b z)]; exact (R.bo b z).1, (R.bo b z).2⟩, R.ow⟩, x, fun b z => upd_ne (hB b z)⟩
/-- an owning slot's object is locked: it becomes data -/
theorem RelF.freeze {od : Obj} (R : RelF L B W H σ ρ oa) (hi : ρ[i]? = some (Slot.own t ds)) (ho : H (oa i) = some o) (hc : ∀ c, t = .obj c → (cf c).length = ds.length) :
    RelF L B W (upd H (oa i) (.frz od o)) σ (ρ.set i (Slot.val (.node t ds))) oa ∧ Stp B W H W (upd H (oa i) (.frz od o)) ∧ Rep L W (upd H (oa i) (.frz od o)) (.node t ds) (.ref (oa i)) := by
  have own : Own ρ oa (oa i) := ⟨i, t, ds, hi, rfl⟩
  obtain ⟨h1, vs, h2, h3⟩ := R.slo hi
  have σl : i < σ.length := by rw [← R.len]; exact (List.getElem?_eq_some_iff.mp hi).1
  have R1 := R.drop i (some (.ref (oa i)))
  have eσ : σ.set i (some (.ref (oa i))) = σ := by
    refine List.ext_getElem? fun j => ?_
    by_cases hj : i = j
    · subst hj
      rw [List.getElem?_set_self σl, h1]
    · rw [List.getElem?_set_ne hj]
  rw [eσ] at R1
  have nO : ¬ Own (ρ.set i Slot.none) oa (oa i) := by
    rintro ⟨j, t1, ds1, e, q⟩
    by_cases hj : i = j
    · subst hj
      rw [List.getElem?_set_self (by rw [R.len]; exact σl)] at e
      cases e
    · rw [List.getElem?_set_ne hj] at e
      exact hj (R.inj i j _ _ _ _ hi e q.symm)
  obtain ⟨R2, S⟩ := R1.lockT (o := .frz od o) h2.mut (fun z => (R.bo _ z).2.2 own) (R.ow _ own) nO
  have rp : Rep L W (upd H (oa i) (.frz od o)) (.node t ds) (.ref (oa i)) := ⟨oa i, vs, rfl, h2.frz ho upd_same fun c e => by rw [h3.length]; exact hc c e, h3.tr S.tr⟩
  have R3 := R2.putV i rp
  rw [eσ, List.set_set] at R3
  exact ⟨R3, S, rp⟩

/-! ### a call -/
/-- what a call leaves: all but wild objects as they were; new wild ones are new -/
structure CTr (L : Ly K) (W : WM) (H : Hp) (W' : WM) (H' : Hp) : Prop where
  same : ∀ b o, H b = some o → W b = none → H' b = some o
  wk : ∀ b k, W b = some k → W' b = some k
  wn : ∀ b, (W' b).isSome = true → (W b).isSome = true ∨ H b = none
  ok : WOk L W' H'
theorem CTr.tr (g : WOk L W H) (c : CTr L W H W' H') : Tr W H W' H' where
  keep := fun b o e n => by
    cases q : W b with
    | none => exact c.same b o e q
    | some k =>
      have m := L.wmu _ _ _ _ (g b k q)
      rw [e] at m
      exact absurd m n
  wld := c.wk
theorem RelF.call (R : RelF L B W H σ ρ oa) (c : CTr L W H W' H') : RelF L B W' H' σ ρ oa ∧ Stp B W H W' H' := by
  have x := c.tr R.ok
  have keepN : ∀ b, H b ≠ none → W b = none → H' b = H b := fun b h n => by
    obtain ⟨o, e⟩ := Option.ne_none_iff_exists'.mp h
    rw [e]; exact c.same b o e n
  have wn : ∀ b, H b ≠ none → W b = none → W' b = none := fun b h n => by
    cases q : W' b with
    | none => rfl
    | some k =>
      rcases c.wn b (by rw [q]; rfl) with z | z
      · rw [n] at z; cases z
      · exact absurd z h
  have on : ∀ b, Own ρ oa b → H b ≠ none := fun b h => by
    obtain ⟨o, e⟩ := mut_some (R.omu h)
    rw [e]; simp
  refine ⟨⟨R.len, c.ok, fun j s q => (R.sl j s q).tr x fun t ds z => ?_, R.inj, fun b h => ⟨?_, wn b (R.bo b h).1 (R.bo b h).2.1, (R.bo b h).2.2⟩, fun b h => wn b (on b h) (R.ow b h)⟩, x, fun b h => keepN b (R.bo b h).1 (R.bo b h).2.1⟩
  · have o : Own ρ oa (oa j) := ⟨j, t, ds, by rw [q, z], rfl⟩
    exact keepN _ (on _ o) (R.ow _ o)
  · rw [keepN b (R.bo b h).1 (R.bo b h).2.1]; exact (R.bo b h).1
end
end DL

/-! D2: what an expression, a test, an argument list, a statement comes to (mirrors), and the first rules. -/
namespace DL
open PySem PySem.Spec PyProof.Rows L2

@[simp] theorem bindE_ret {α β : Type} (a : α) (ρ : Rho) (f : α → Rho → M (ER β)) : bindE (retE a ρ) f = f a ρ := rfl
@[simp] theorem bindE_ok {α β : Type} (a : α) (ρ : Rho) (f : α → Rho → M (ER β)) : bindE (.ret (.ok (a, ρ))) f = f a ρ := rfl
@[simp] theorem bindE_err {α β : Type} (e : Err × Rho) (f : α → Rho → M (ER β)) : bindE (.ret (.error e)) f = .ret (.error e) := rfl
@[simp] theorem optE_some {α : Type} (a : α) (ρ : Rho) : optE (some a) ρ = .ret (.ok (a, ρ)) := rfl

section
variable {K : PySem.W.Frag} (L : Ly K)
/-- to be read: data, or an own object as it stands -/
def RepP (W : WM) (H : Hp) (d : D) (v : V) : Prop := Rep L W H d v ∨ ∃ t ds a vs, d = .node t ds ∧ v = .ref a ∧ OAt L H a t vs ∧ RepL L W H ds vs
def PostE {α : Type} (B : Addr → Prop) (Wx : WX) (W : WM) (H : Hp) (σ : L2.St) (k : α → Rho → WM → Hp → Prop) : ER α → Prop
  | .ok p => ∀ W' H', Stp B W H W' H' → Rel L B W' H' σ p.2 → k p.1 p.2 W' H'
  | .error e => ∀ W' H' c dd, Stp B W H W' H' → Rel L B W' H' σ e.2 → ERep L W' H' e.1 c dd → Wx c dd σ H'
def PostS (B : Addr → Prop) (Wx : WX) (W : WM) (H : Hp) (E : Ends) : SR → Prop
  | .nx ρ => ∀ W' H' σ', Stp B W H W' H' → Rel L B W' H' σ' ρ → E.nx σ' H'
  | .bk ρ => ∀ W' H' σ', Stp B W H W' H' → Rel L B W' H' σ' ρ → E.bk σ' H'
  | .ct ρ => ∀ W' H' σ', Stp B W H W' H' → Rel L B W' H' σ' ρ → E.ct σ' H'
  | .rt d => ∀ W' H' v, Stp B W H W' H' → WOk L W' H' → (∀ b, B b → W' b = none) → Rep L W' H' d v → E.rt v H'
  | .ex e ρ => ∀ W' H' σ' c dd, Stp B W H W' H' → Rel L B W' H' σ' ρ → ERep L W' H' e c dd → Wx c dd σ' H'
def tE (Wx : WX) (m : EM D) : TE := fun σ H Q => ∃ B W ρ, Rel L B W H σ ρ ∧ (m ρ).wp (PostE L B Wx W H σ fun d _ W' H' => ∀ v, Rep L W' H' d v → Q v H')
def tP (Wx : WX) (m : EM D) : TE := fun σ H Q => ∃ B W ρ, Rel L B W H σ ρ ∧ (m ρ).wp (PostE L B Wx W H σ fun d _ W' H' => ∀ v, RepP L W' H' d v → Q v H')
def tB' (Wx : WX) (m : EM Bool) : TT := fun σ H Q => ∃ B W ρ, Rel L B W H σ ρ ∧ (m ρ).wp (PostE L B Wx W H σ fun b _ _ H' => Q b H')
def tAs (Wx : WX) (m : EM (List D)) : TA := fun σ H Q => ∃ B W ρ, Rel L B W H σ ρ ∧ (m ρ).wp (PostE L B Wx W H σ fun ds _ W' H' => ∀ vs, RepL L W' H' ds vs → Q vs H')
def tS (Wx : WX) (m : SM) : TS := fun E σ H => ∃ B W ρ, Rel L B W H σ ρ ∧ (m ρ).wp (PostS L B Wx W H E)
/-- quiet: nothing changes -/
def tQ (m : Rho → Option D) : TE := fun σ H Q => ∃ B W ρ d, Rel L B W H σ ρ ∧ m ρ = some d ∧ ∀ v, RepP L W H d v → Q v H
end

section
variable {X : Cx} {L : Ly X.K} {Wx : WX} {B : Addr → Prop} {W W1 W' : WM} {H H1 H' : Hp} {σ : L2.St} {ρ : Rho}
theorem PE.weak {e : Expr} {t t' : TE} (h : PE X e t) (w : ∀ σ H Q, t' σ H Q → t σ H Q) : PE X e t' := ⟨fun pins s σ H Q I q => h.run pins s σ H Q I (w σ H Q q)⟩
theorem PT.weak {e : Expr} {t t' : TT} (h : PT X e t) (w : ∀ σ H Q, t' σ H Q → t σ H Q) : PT X e t' := ⟨fun pins s σ H Q I q => h.run pins s σ H Q I (w σ H Q q)⟩
theorem PW.weak {e : Expr} {t t' : TT} (h : PW X e t) (w : ∀ σ H Q, t' σ H Q → t σ H Q) : PW X e t' := ⟨fun wh pins s σ H Q I q => h.run wh pins s σ H Q I (w σ H Q q)⟩
theorem PA.weak {e : List Expr} {t t' : TA} (h : PA X e t) (w : ∀ σ H Q, t' σ H Q → t σ H Q) : PA X e t' := ⟨fun pos pins s σ H Q I q => h.run pos pins s σ H Q I (w σ H Q q)⟩
theorem PS.weak {e : Stmt} {t t' : TS} (h : PS X e t) (w : ∀ E σ H, t' E σ H → t E σ H) : PS X e t' := ⟨fun pins s σ H E I q => h.run pins s σ H E I (w E σ H q)⟩
theorem PSs.weak {e : List Stmt} {t t' : TS} (h : PSs X e t) (w : ∀ E σ H, t' E σ H → t E σ H) : PSs X e t' := ⟨fun pins s σ H E I q => h.run pins s σ H E I (w E σ H q)⟩

theorem PostE.imp {α : Type} {k k' : α → Rho → WM → Hp → Prop} {r : ER α} (h : PostE L B Wx W H σ k r) (i : ∀ a ρ' W' H', Stp B W H W' H' → Rel L B W' H' σ ρ' → k a ρ' W' H' → k' a ρ' W' H') : PostE L B Wx W H σ k' r := by
  cases r with
  | ok p => exact fun W' H' S R => i _ _ _ _ S R (h W' H' S R)
  | error e => exact h
theorem PostE.from {α : Type} {k : α → Rho → WM → Hp → Prop} {r : ER α} (h : PostE L B Wx W H σ k r) (S : Stp B W H W1 H1) : PostE L B Wx W1 H1 σ k r := by
  cases r with
  | ok p => exact fun W' H' S' R => h W' H' (S.trans S') R
  | error e => exact fun W' H' c dd S' R => h W' H' c dd (S.trans S') R
theorem PostS.from {E : Ends} {r : SR} (h : PostS L B Wx W H E r) (S : Stp B W H W1 H1) : PostS L B Wx W1 H1 E r := by
  cases r with
  | nx ρ => exact fun W' H' σ' S' R => h W' H' σ' (S.trans S') R
  | bk ρ => exact fun W' H' σ' S' R => h W' H' σ' (S.trans S') R
  | ct ρ => exact fun W' H' σ' S' R => h W' H' σ' (S.trans S') R
  | rt d => exact fun W' H' v S' => h W' H' v (S.trans S')
  | ex e ρ => exact fun W' H' σ' c dd S' R => h W' H' σ' c dd (S.trans S') R
/-- two in a row -/
theorem wp_seqE {α β : Type} {m : M (ER α)} {f : α → Rho → M (ER β)} {k : β → Rho → WM → Hp → Prop} (h : (bindE m f).wp (PostE L B Wx W H σ k)) :
    m.wp (PostE L B Wx W H σ fun a ρ1 W1 H1 => (f a ρ1).wp (PostE L B Wx W1 H1 σ k)) := by
  refine M.wp_mono (fun r q => ?_) (M.wp_bind.mp h)
  cases r with
  | ok p => exact fun W1 H1 S R => M.wp_mono (fun r' q' => q'.from S) q
  | error e => exact q
theorem wp_seqES {α : Type} {m : M (ER α)} {f : α → Rho → M SR} {E : Ends} (h : (bindES m f).wp (PostS L B Wx W H E)) :
    m.wp (PostE L B Wx W H σ fun a ρ1 W1 H1 => (f a ρ1).wp (PostS L B Wx W1 H1 E)) := by
  refine M.wp_mono (fun r q => ?_) (M.wp_bind.mp h)
  cases r with
  | ok p => exact fun W1 H1 S R => M.wp_mono (fun r' q' => q'.from S) q
  | error e => exact fun W' H' c dd S R q' => q W' H' σ c dd S R q'
theorem wp_seqS {m : M SR} {f : Rho → M SR} {E : Ends} (h : (bindS m f).wp (PostS L B Wx W H E)) :
    m.wp fun r => match r with
      | .nx ρ => ∀ W1 H1, Stp B W H W1 H1 → (f ρ).wp (PostS L B Wx W1 H1 E)
      | r => PostS L B Wx W H E r := by
  refine M.wp_mono (fun r q => ?_) (M.wp_bind.mp h)
  cases r with
  | nx ρ => exact fun W1 H1 S => M.wp_mono (fun r' q' => q'.from S) q
  | _ => exact q
theorem tP_tE {m : EM D} {Q : VK} (h : tP L Wx m σ H Q) : tE L Wx m σ H Q := by
  obtain ⟨B, W, ρ, R, q⟩ := h
  exact ⟨B, W, ρ, R, M.wp_mono (fun r p => p.imp fun a ρ' W' H' _ _ z v rv => z v (.inl rv)) q⟩
/-- all that stood stands: only new objects -/
theorem Rel.same (R : Rel L B W H σ ρ) (e : Same H H') : Rel L B W H' σ ρ ∧ Stp B W H W H' := by
  obtain ⟨oa, R⟩ := R
  have km : ∀ b, Mut (H b) → H' b = H b := fun b m => by
    obtain ⟨o, q⟩ := mut_some m
    rw [q]; exact e b o q
  exact ⟨⟨oa, R.keep ⟨fun b o q _ => e b o q, fun _ _ q => q⟩ km⟩, ⟨⟨fun b o q _ => e b o q, fun _ _ q => q⟩, fun b hb => by
    obtain ⟨o, q⟩ := Option.ne_none_iff_exists'.mp (R.bo b hb).1
    rw [q]; exact e b o q⟩⟩
theorem RepP.tr (x : Same H H') {d : D} {v : V} (h : RepP L W H d v) : RepP L W H' d v := by
  have t : Tr W H W H' := ⟨fun b o q _ => x b o q, fun _ _ q => q⟩
  rcases h with h | ⟨t', ds, a, vs, h1, h2, h3, h4⟩
  · exact .inl (h.tr t)
  · refine .inr ⟨t', ds, a, vs, h1, h2, ?_, h4.tr t⟩
    obtain ⟨o, q⟩ := mut_some h3.mut
    exact h3.at (by rw [q]; exact x a o q)

/-! ### constants, names -/
def dC : D → V
  | .bl b => .bl b
  | .int i => .int i
  | .str s => .str s
  | _ => .non
theorem wp_retE {α : Type} {a : α} {k : α → Rho → WM → Hp → Prop} (R : Rel L B W H σ ρ) (h : (retE a ρ).wp (PostE L B Wx W H σ k)) : k a ρ W H := h W H Stp.refl R
theorem d_const {e : Expr} {v : V} {d : D} (h : PE X e (tC v)) (hr : ∀ W H, Rep L W H d v) : PE X e (tE L Wx (eC d)) := PE.weak h fun σ H Q q => by
  obtain ⟨B, W, ρ, R, q⟩ := q
  exact wp_retE R q v (hr W H)
theorem d_int {i j pos} : PE X (.Constant (.int i) j pos) (tE L Wx (eC (.int i))) := d_const pe_int fun _ _ => rfl
theorem d_bl {b j pos} : PE X (.Constant (.bool b) j pos) (tE L Wx (eC (.bl b))) := d_const pe_bl fun _ _ => rfl
theorem d_non {j pos} : PE X (.Constant .none j pos) (tE L Wx (eC .non)) := d_const pe_non fun _ _ => rfl
theorem d_str {x j pos} : PE X (.Constant (.str x) j pos) (tE L Wx (eC (.str x))) := d_const pe_str fun _ _ => rfl

/-- an object may be locked as soon as it stands -/
def tFrz (t : TE) : TE := fun σ H Q => t σ H fun v H1 => Q v H1 ∨ ∃ a u, v = .ref a ∧ H1 a = some u ∧ Mut (some u) ∧ ∀ od, Q v (upd H1 a (.frz od u))
theorem pe_frz {e : Expr} {t : TE} (h : PE X e t) : PE X e (tFrz t) := ⟨fun pins s σ H Q I q => thn (h.run pins s σ H _ I q) fun v s1 ⟨x, H1, I1, r1, q1⟩ => by
  rcases q1 with q1 | ⟨a, u, rfl, ha, mu, q1⟩
  · exact ⟨x, H1, I1, r1, q1⟩
  · obtain ⟨od, I2⟩ := I1.lock ha mu
    exact ⟨.ref a, _, I2, r1, q1 od⟩⟩
/-- a name: data as it is, an own object let go -/
theorem d_v {i : Nat} {e : Expr} (h : PE X e (tVar i)) : PE X e (tE L Wx (eV i)) := PE.weak (pe_frz h) fun σ H Q q => by
  obtain ⟨B, W, ρ, ⟨oa, R⟩, q⟩ := q
  unfold eV at q
  split at q
  · rename_i d e
    obtain ⟨v, h1, h2⟩ := R.slv e
    exact ⟨v, h1, .inl (wp_retE ⟨oa, R⟩ q v h2)⟩
  · rename_i t ds e
    split at q
    · rename_i hw
      obtain ⟨h1, vs, h2, h3⟩ := R.slo e
      obtain ⟨o, ho⟩ := mut_some h2.mut
      refine ⟨_, h1, .inr ⟨oa i, o, rfl, ho, by rw [← ho]; exact h2.mut, fun od => ?_⟩⟩
      obtain ⟨R1, S, rp⟩ := R.freeze (od := od) e ho fun c hc => by
        subst hc
        simpa [whole] using hw
      exact q W _ S ⟨oa, R1⟩ _ rp
    · exact q.elim
  · exact q.elim
theorem eP_qV {i : Nat} : eP i = fun ρ => optE (qV i ρ) ρ := by
  funext ρ
  unfold eP qV
  split <;> rfl
theorem slot_qV {oa : Nat → Addr} {i : Nat} {d : D} (R : RelF L B W H σ ρ oa) (e : qV i ρ = some d) : ∃ v, σ[i]? = some (some v) ∧ RepP L W H d v := by
  unfold qV at e
  split at e
  · rename_i d' q
    cases e
    obtain ⟨v, h1, h2⟩ := R.slv q
    exact ⟨v, h1, .inl h2⟩
  · rename_i t ds q
    cases e
    obtain ⟨h1, vs, h2, h3⟩ := R.slo q
    exact ⟨_, h1, .inr ⟨t, ds, _, vs, rfl, rfl, h2, h3⟩⟩
  · cases e
theorem q_v {i : Nat} {e : Expr} (h : PE X e (tVar i)) : PE X e (tQ L (qV i)) := PE.weak h fun σ H Q q => by
  obtain ⟨B, W, ρ, d, ⟨oa, R⟩, e, q⟩ := q
  obtain ⟨v, h1, h2⟩ := slot_qV R e
  exact ⟨v, h1, q v h2⟩
theorem q_const {e : Expr} {v : V} {d : D} (h : PE X e (tC v)) (hr : ∀ W H, Rep L W H d v) : PE X e (tQ L fun _ => some d) := PE.weak h fun σ H Q q => by
  obtain ⟨B, W, ρ, d', R, e, q⟩ := q
  cases e
  exact q v (.inl (hr W H))
theorem q_int {i j pos} : PE X (.Constant (.int i) j pos) (tQ L fun _ => some (.int i)) := q_const pe_int fun _ _ => rfl
theorem q_str {x j pos} : PE X (.Constant (.str x) j pos) (tQ L fun _ => some (.str x)) := q_const pe_str fun _ _ => rfl
theorem q_bl {b j pos} : PE X (.Constant (.bool b) j pos) (tQ L fun _ => some (.bl b)) := q_const pe_bl fun _ _ => rfl
theorem q_non {j pos} : PE X (.Constant .none j pos) (tQ L fun _ => some .non) := q_const pe_non fun _ _ => rfl
/-- what is quiet may be read -/
theorem p_q {e : Expr} {m : Rho → Option D} (h : PE X e (tQ L m)) : PE X e (tP L Wx fun ρ => optE (m ρ) ρ) := PE.weak h fun σ H Q q => by
  obtain ⟨B, W, ρ, R, q⟩ := q
  dsimp only at q
  cases e : m ρ with
  | none => rw [e] at q; exact q.elim
  | some d =>
    rw [e] at q
    exact ⟨B, W, ρ, d, R, e, fun v hv => wp_retE R q v hv⟩
theorem p_e {e : Expr} {m : EM D} (h : PE X e (tE L Wx m)) : PE X e (tP L Wx m) := PE.weak h fun _ _ _ q => tP_tE q

/-! ### operators, by what they give -/
/-- what an operator asks: two that may be read, an answer that may stand on new objects alone -/
def rD {K : PySem.W.Frag} (L : Ly K) (g : D → D → Option D) : R2 := fun v u H Q => ∃ W x y d, WOk L W H ∧ g x y = some d ∧ RepP L W H x v ∧ RepP L W H y u ∧ ∀ H' w, Same H H' → Rep L W H' d w → Q w H'
theorem Rel.wok (R : Rel L B W H σ ρ) : WOk L W H := by
  obtain ⟨oa, R⟩ := R
  exact R.ok
theorem tOp_D {g : D → D → Option D} {ma mb : EM D} {Q : VK} (h : tE L Wx (eBin g ma mb) σ H Q) : tOp (rD L g) (tE L Wx ma) (tP L Wx mb) σ H Q := by
  obtain ⟨B, W, ρ, R, q⟩ := h
  refine ⟨B, W, ρ, R, M.wp_mono (fun r p => p.imp fun x ρ1 W1 H1 S1 R1 z v hv => ?_) (wp_seqE q)⟩
  refine ⟨B, W1, ρ1, R1, M.wp_mono (fun r p => p.imp fun y ρ2 W2 H2 S2 R2 z2 u hu => ?_) (wp_seqE z)⟩
  cases e : g x y with
  | none => rw [e] at z2; exact z2.elim
  | some d =>
    rw [e] at z2
    refine ⟨W2, x, y, d, R2.wok, e, .inl (hv.tr S2.tr), hu, fun H' w s hw => ?_⟩
    obtain ⟨R3, S3⟩ := R2.same s
    exact z2 W2 H' S3 R3 w hw
theorem tOp_Q {g : D → D → Option D} {ma : EM D} {mb : Rho → Option D} {Q : VK} (h : tE L Wx (eBinQ g ma mb) σ H Q) : tOp (rD L g) (tP L Wx ma) (tQ L mb) σ H Q := by
  obtain ⟨B, W, ρ, R, q⟩ := h
  refine ⟨B, W, ρ, R, M.wp_mono (fun r p => p.imp fun x ρ1 W1 H1 S1 R1 z v hv => ?_) (wp_seqE q)⟩
  cases e1 : mb ρ1 with
  | none => rw [e1] at z; exact z.elim
  | some y =>
    rw [e1] at z
    refine ⟨B, W1, ρ1, y, R1, e1, fun u hu => ?_⟩
    cases e : g x y with
    | none => simp only [e] at z; exact z.elim
    | some d =>
      simp only [e] at z
      refine ⟨W1, x, y, d, R1.wok, e, hv, hu, fun H' w s hw => ?_⟩
      obtain ⟨R3, S3⟩ := R1.same s
      exact z W1 H' S3 R3 w hw
theorem d_bin {op : Operator} {a b : Expr} {pos : Pos} {g : D → D → Option D} {ma mb : EM D} (ho : OpR X (binaryOp op) (rD L g)) (ha : PE X a (tE L Wx ma)) (hb : PE X b (tP L Wx mb)) : PE X (.BinOp a op b pos) (tE L Wx (eBin g ma mb)) :=
  PE.weak (pe_op ho ha hb) fun _ _ _ q => tOp_D q
theorem d_binQ {op : Operator} {a b : Expr} {pos : Pos} {g : D → D → Option D} {ma : EM D} {mb : Rho → Option D} (ho : OpR X (binaryOp op) (rD L g)) (ha : PE X a (tP L Wx ma)) (hb : PE X b (tQ L mb)) : PE X (.BinOp a op b pos) (tE L Wx (eBinQ g ma mb)) :=
  PE.weak (pe_op ho ha hb) fun _ _ _ q => tOp_Q q
theorem d_cmp {op : CmpOp} {a b : Expr} {pos : Pos} {g : D → D → Option D} {ma mb : EM D} (ho : OpR X (compareOp op) (rD L g)) (ha : PE X a (tE L Wx ma)) (hb : PE X b (tP L Wx mb)) (hm : behindInMarks op b = false := by rfl) : PE X (.Compare a [op] [b] pos) (tE L Wx (eBin g ma mb)) :=
  PE.weak (pe_cmpR ho ha hb hm) fun _ _ _ q => tOp_D q
theorem d_cmpQ {op : CmpOp} {a b : Expr} {pos : Pos} {g : D → D → Option D} {ma : EM D} {mb : Rho → Option D} (ho : OpR X (compareOp op) (rD L g)) (ha : PE X a (tP L Wx ma)) (hb : PE X b (tQ L mb)) (hm : behindInMarks op b = false := by rfl) : PE X (.Compare a [op] [b] pos) (tE L Wx (eBinQ g ma mb)) :=
  PE.weak (pe_cmpR ho ha hb hm) fun _ _ _ q => tOp_Q q
end
end DL

/-! D3: == of data: numbers, texts, lists, tuples, dicts with text or number keys, nested. -/
namespace DL
open PySem PySem.Spec PyProof.Rows L2 PySem.W

section
variable (P : Program) (w : World) (h : Heap)
mutual
def LD : D → Value → Prop
  | .non, u => u = .none
  | .bl b, u => u = .bool b
  | .int i, u => ∃ t, u = .int i t
  | .str x, u => ∃ t, u = .str x t
  | .wld _, _ => False
  | .node .lst ds, u => ∃ a its, u = .ref a ∧ h.IsList a (List.toArray its) ∧ LDL ds its
  | .node .tup ds, u => ∃ a its, u = .ref a ∧ h.IsTuple a (List.toArray its) ∧ LDL ds its
  | .node (.dct ks) ds, u => ∃ a kvs, u = .ref a ∧ (a == sysModules) = false ∧ h.DictOf (mixKind P w) a kvs ∧ kvs.map (·.1) = ks ∧ LDL ds (kvs.map (·.2))
  | .node (.dctT _) _, _ => False
  | .node (.obj _) _, _ => False
def LDL : List D → List Value → Prop
  | [], us => us = []
  | d :: ds, us => ∃ u r, us = u :: r ∧ LD d u ∧ LDL ds r
end
end
section
variable {P : Program} {w : World} {h : Heap}
theorem LDL.length : ∀ {ds : List D} {us : List Value}, LDL P w h ds us → us.length = ds.length
  | [], _, e => by rw [show _ = [] from e]; rfl
  | _ :: _, _, ⟨u, r, e, _, t⟩ => by rw [e]; simp [LDL.length t]
theorem LDL.get : ∀ {ds : List D} {us : List Value} {i : Nat} {u : Value}, LDL P w h ds us → us[i]? = some u → ∃ d, ds[i]? = some d ∧ LD P w h d u
  | [], us, i, u, e, q => by rw [show us = [] from e] at q; simp at q
  | d :: ds, _, 0, u, ⟨v, r, e, z, t⟩, q => by
    subst e
    simp at q
    subst q
    exact ⟨d, rfl, z⟩
  | d :: ds, _, i + 1, u, ⟨v, r, e, z, t⟩, q => by
    subst e
    obtain ⟨d', h1, h2⟩ := LDL.get (i := i) t (by simpa using q)
    exact ⟨d', by simpa using h1, h2⟩
theorem pairs_inj {es : List DictEntry} : ∀ {ka kb : List (Key × Value)}, Pairs (mixKind P w) es ka → Pairs (mixKind P w) es kb → ka = kb := by
  induction es with
  | nil => intro ka kb a b; cases a; cases b; rfl
  | cons e es ih =>
    intro ka kb a b
    cases a with
    | @cons _ x _ xs a1 a2 a3 => cases b with
      | @cons _ y _ ys b1 b2 b3 =>
        rw [ih a3 b3]
        have e1 : x.1 = y.1 := (mixKind P w).inj _ _ _ a1 b1
        have e2 : x.2 = y.2 := a2.symm.trans b2
        obtain ⟨x1, x2⟩ := x
        obtain ⟨y1, y2⟩ := y
        cases e1
        cases e2
        rfl
theorem dictOf_inj {a : Addr} {ka kb : List (Key × Value)} (x : h.DictOf (mixKind P w) a ka) (y : h.DictOf (mixKind P w) a kb) : ka = kb := by
  obtain ⟨o, es, ep, e, _, d, _, p, _⟩ := x
  obtain ⟨o', es', ep', e', _, d', _, p', _⟩ := y
  rw [e] at e'
  cases e'
  rw [d] at d'
  injection d' with d1 d2
  subst d1
  exact pairs_inj p p'
theorem dictOf_nodup {a : Addr} {ka : List (Key × Value)} (x : h.DictOf (mixKind P w) a ka) : (ka.map (·.1)).Nodup := by
  obtain ⟨_, _, _, _, _, _, _, _, q⟩ := x
  exact q
theorem isList_inj {a : Addr} {xs ys : Array Value} (x : h.IsList a xs) (y : h.IsList a ys) : xs = ys := by
  obtain ⟨o, e, _, n, d⟩ := x
  obtain ⟨o', e', _, n', d'⟩ := y
  rw [e] at e'
  cases e'
  rw [d] at d'
  injection d'
theorem isTuple_inj {a : Addr} {xs ys : Array Value} (x : h.IsTuple a xs) (y : h.IsTuple a ys) : xs = ys := by
  obtain ⟨o, e, _, n, d⟩ := x
  obtain ⟨o', e', _, n', d'⟩ := y
  rw [e] at e'
  cases e'
  rw [d] at d'
  injection d'
theorem list_tuple {a : Addr} {xs ys : Array Value} (x : h.IsList a xs) (y : h.IsTuple a ys) : False := by
  obtain ⟨o, e, c, _⟩ := x
  obtain ⟨o', e', c', _⟩ := y
  rw [e] at e'
  cases e'
  rw [c] at c'
  injection c' with c'
  exact absurd c' (by decide)
theorem list_dict {a : Addr} {xs : Array Value} {ka : List (Key × Value)} (x : h.IsList a xs) (y : h.DictOf (mixKind P w) a ka) : False := by
  obtain ⟨o, e, c, n, d⟩ := x
  obtain ⟨o', es, ep, e', _, d', _⟩ := y
  rw [e] at e'
  cases e'
  rw [d] at d'
  cases d'
theorem tuple_dict {a : Addr} {xs : Array Value} {ka : List (Key × Value)} (x : h.IsTuple a xs) (y : h.DictOf (mixKind P w) a ka) : False := by
  obtain ⟨o, e, c, n, d⟩ := x
  obtain ⟨o', es, ep, e', _, d', _⟩ := y
  rw [e] at e'
  cases e'
  rw [d] at d'
  cases d'
mutual
theorem LD.inj : ∀ {d e : D} {u : Value}, LD P w h d u → LD P w h e u → d = e
  | .non, e, u, a, b => by
    cases (show u = _ from a)
    cases e with
    | non => rfl
    | bl => cases (show Value.none = _ from b)
    | int => obtain ⟨t, b⟩ := b; cases b
    | str => obtain ⟨t, b⟩ := b; cases b
    | wld => exact b.elim
    | node t xs => cases t with
      | lst => obtain ⟨_, _, b, _⟩ := b; cases b
      | tup => obtain ⟨_, _, b, _⟩ := b; cases b
      | dct => obtain ⟨_, _, b, _⟩ := b; cases b
      | dctT => exact b.elim
      | obj => exact b.elim
  | .bl x, e, u, a, b => by
    cases (show u = _ from a)
    cases e with
    | non => cases (show Value.bool x = _ from b)
    | bl => cases (show Value.bool x = _ from b); rfl
    | int => obtain ⟨t, b⟩ := b; cases b
    | str => obtain ⟨t, b⟩ := b; cases b
    | wld => exact b.elim
    | node t xs => cases t with
      | lst => obtain ⟨_, _, b, _⟩ := b; cases b
      | tup => obtain ⟨_, _, b, _⟩ := b; cases b
      | dct => obtain ⟨_, _, b, _⟩ := b; cases b
      | dctT => exact b.elim
      | obj => exact b.elim
  | .int x, e, u, a, b => by
    obtain ⟨t0, a⟩ := a
    cases a
    cases e with
    | non => cases (show Value.int x t0 = _ from b)
    | bl => cases (show Value.int x t0 = _ from b)
    | int => obtain ⟨t, b⟩ := b; cases b; rfl
    | str => obtain ⟨t, b⟩ := b; cases b
    | wld => exact b.elim
    | node t xs => cases t with
      | lst => obtain ⟨_, _, b, _⟩ := b; cases b
      | tup => obtain ⟨_, _, b, _⟩ := b; cases b
      | dct => obtain ⟨_, _, b, _⟩ := b; cases b
      | dctT => exact b.elim
      | obj => exact b.elim
  | .str x, e, u, a, b => by
    obtain ⟨t0, a⟩ := a
    cases a
    cases e with
    | non => cases (show Value.str x t0 = _ from b)
    | bl => cases (show Value.str x t0 = _ from b)
    | int => obtain ⟨t, b⟩ := b; cases b
    | str => obtain ⟨t, b⟩ := b; cases b; rfl
    | wld => exact b.elim
    | node t xs => cases t with
      | lst => obtain ⟨_, _, b, _⟩ := b; cases b
      | tup => obtain ⟨_, _, b, _⟩ := b; cases b
      | dct => obtain ⟨_, _, b, _⟩ := b; cases b
      | dctT => exact b.elim
      | obj => exact b.elim
  | .wld _, _, _, a, _ => a.elim
  | .node .lst xs, e, u, a, b => by
    obtain ⟨p, its, a1, a2, a3⟩ := a
    cases a1
    cases e with
    | non => cases (show Value.ref p = _ from b)
    | bl => cases (show Value.ref p = _ from b)
    | int => obtain ⟨t, b⟩ := b; cases b
    | str => obtain ⟨t, b⟩ := b; cases b
    | wld => exact b.elim
    | node t ys => cases t with
      | lst =>
        obtain ⟨_, its', b1, b2, b3⟩ := b
        cases b1
        have e := isList_inj a2 b2
        have e' : its = its' := by simpa using congrArg Array.toList e
        subst e'
        rw [LDL.inj a3 b3]
      | tup => obtain ⟨_, its', b1, b2, b3⟩ := b; cases b1; exact (list_tuple a2 b2).elim
      | dct => obtain ⟨_, _, b1, _, b2, _⟩ := b; cases b1; exact (list_dict a2 b2).elim
      | dctT => exact b.elim
      | obj => exact b.elim
  | .node .tup xs, e, u, a, b => by
    obtain ⟨p, its, a1, a2, a3⟩ := a
    cases a1
    cases e with
    | non => cases (show Value.ref p = _ from b)
    | bl => cases (show Value.ref p = _ from b)
    | int => obtain ⟨t, b⟩ := b; cases b
    | str => obtain ⟨t, b⟩ := b; cases b
    | wld => exact b.elim
    | node t ys => cases t with
      | lst => obtain ⟨_, its', b1, b2, b3⟩ := b; cases b1; exact (list_tuple b2 a2).elim
      | tup =>
        obtain ⟨_, its', b1, b2, b3⟩ := b
        cases b1
        have e := isTuple_inj a2 b2
        have e' : its = its' := by simpa using congrArg Array.toList e
        subst e'
        rw [LDL.inj a3 b3]
      | dct => obtain ⟨_, _, b1, _, b2, _⟩ := b; cases b1; exact (tuple_dict a2 b2).elim
      | dctT => exact b.elim
      | obj => exact b.elim
  | .node (.dct ks) xs, e, u, a, b => by
    obtain ⟨p, ka, a1, a2, a3, a4, a5⟩ := a
    cases a1
    cases e with
    | non => cases (show Value.ref p = _ from b)
    | bl => cases (show Value.ref p = _ from b)
    | int => obtain ⟨t, b⟩ := b; cases b
    | str => obtain ⟨t, b⟩ := b; cases b
    | wld => exact b.elim
    | node t ys => cases t with
      | lst => obtain ⟨_, its', b1, b2, b3⟩ := b; cases b1; exact (list_dict b2 a3).elim
      | tup => obtain ⟨_, its', b1, b2, b3⟩ := b; cases b1; exact (tuple_dict b2 a3).elim
      | dct =>
        obtain ⟨_, kb, b1, b2, b3, b4, b5⟩ := b
        cases b1
        have e := dictOf_inj a3 b3
        subst e
        rw [LDL.inj a5 b5, ← a4, ← b4]
      | dctT => exact b.elim
      | obj => exact b.elim
  | .node (.dctT _) _, _, _, a, _ => a.elim
  | .node (.obj _) _, _, _, a, _ => a.elim
theorem LDL.inj : ∀ {ds es : List D} {us : List Value}, LDL P w h ds us → LDL P w h es us → ds = es
  | [], es, us, a, b => by
    cases (show us = _ from a)
    cases es with
    | nil => rfl
    | cons e es => obtain ⟨_, _, b, _⟩ := b; cases b
  | d :: ds, es, us, a, b => by
    obtain ⟨u, r, a1, a2, a3⟩ := a
    subst a1
    cases es with
    | nil => cases (show u :: r = _ from b)
    | cons e es =>
      obtain ⟨u', r', b1, b2, b3⟩ := b
      cases b1
      rw [LD.inj a2 b2, LDL.inj a3 b3]
end

theorem allO_map {α : Type} {g : α → Option Bool} {l : List α} {b : Bool} (e : allO (l.map g) = some b) : ∃ f : α → Bool, (∀ x ∈ l, g x = some (f x)) ∧ b = l.all f := by
  have key : ∀ (l : List α) (b : Bool), allO (l.map g) = some b → (∀ x ∈ l, g x = some ((g x).getD false)) ∧ b = l.all fun x => (g x).getD false := by
    intro l
    induction l with
    | nil => intro b e; cases e; exact ⟨fun x hx => by simp at hx, rfl⟩
    | cons x r ih =>
      intro b e
      cases q : g x with
      | none => simp [allO, q] at e
      | some c =>
        cases q2 : allO (r.map g) with
        | none => simp [allO, q, q2] at e
        | some b' =>
          obtain ⟨h1, h2⟩ := ih b' q2
          have eb : (c && b') = b := by simpa [allO, q, q2] using e
          refine ⟨fun y hy => ?_, ?_⟩
          · rcases List.mem_cons.mp hy with z | z
            · rw [z, q]; rfl
            · exact h1 y z
          · rw [← eb, h2]
            simp [q]
  exact ⟨_, (key l b e).1, (key l b e).2⟩
theorem lk_zip : ∀ (ks : List Key) (xs : List D) (q : Key), lk ks xs q = ((ks.zip xs).find? fun p => p.1 = q).map (·.2)
  | [], _, _ => by simp [lk]
  | _ :: _, [], _ => by simp [lk]
  | k :: ks, x :: xs, q => by
    by_cases e : k = q
    · simp [lk, e]
    · simp [lk, e, lk_zip ks xs q]
instance : Inhabited Key := ⟨.inl 0⟩
theorem zip_range {α β γ : Type} [Inhabited α] [Inhabited β] (f : α → β → γ) (xs : List α) (ys : List β) : List.zipWith f xs ys = (List.range (min xs.length ys.length)).map fun j => f (xs.getD j default) (ys.getD j default) := by
  refine List.ext_getElem (by simp) fun j h1 h2 => ?_
  have hx : j < xs.length := by simp at h1; omega
  have hy : j < ys.length := by simp at h1; omega
  simp [List.getD, hx, hy]
theorem LDL.nth {ds : List D} {us : List Value} {j : Nat} (x : LDL P w h ds us) (hj : j < us.length) : LD P w h (ds.getD j default) us[j] := by
  obtain ⟨d, h1, h2⟩ := x.get (i := j) (u := us[j]) (by simp [hj])
  rw [List.getD, h1]
  exact h2
theorem lk_of {ks : List Key} {xs : List D} {j : Nat} (nd : ks.Nodup) (h1 : j < ks.length) (h2 : j < xs.length) : lk ks xs ks[j] = some xs[j] := by
  induction ks generalizing xs j with
  | nil => simp at h1
  | cons k ks ih =>
    cases xs with
    | nil => simp at h2
    | cons x xs =>
      cases j with
      | zero => simp [lk]
      | succ j =>
        have n := List.nodup_cons.mp nd
        have hj : j < ks.length := by simpa using h1
        have hne : ¬ k = ks[j] := fun e => n.1 (by rw [e]; exact List.getElem_mem hj)
        simp [lk, hne]
        exact ih n.2 hj (by simpa using h2)
theorem lk_val {ls : List Key} {ys : List D} {kb : List (Key × Value)} (e : kb.map (·.1) = ls) (x : LDL P w h ys (kb.map (·.2))) (k : Key) :
    (lk ls ys k = none ∧ valueAt kb k = none) ∨ ∃ y u, lk ls ys k = some y ∧ valueAt kb k = some u ∧ LD P w h y u := by
  subst e
  induction kb generalizing ys with
  | nil => exact .inl ⟨by simp [lk], by simp [valueAt]⟩
  | cons p r ih =>
    obtain ⟨pk, pv⟩ := p
    cases ys with
    | nil => cases (show List.map _ _ = _ from x)
    | cons y ys =>
      obtain ⟨u, r', e1, h1, h2⟩ := x
      cases e1
      by_cases q : pk = k
      · refine .inr ⟨y, pv, by simp [lk, q], by simp [valueAt, q], h1⟩
      · rcases ih h2 with ⟨a, b⟩ | ⟨y', u', a, b, c⟩
        · refine .inl ⟨by simpa [lk, q] using a, ?_⟩
          have : valueAt ((pk, pv) :: r) k = valueAt r k := by simp [valueAt, List.find?_cons, q]
          rw [this]; exact b
        · refine .inr ⟨y', u', by simpa [lk, q] using a, ?_, c⟩
          have : valueAt ((pk, pv) :: r) k = valueAt r k := by simp [valueAt, List.find?_cons, q]
          rw [this]; exact b
theorem eqN_self {dk : Bool} : ∀ (n : Nat) (d : D) (b : Bool) (u : Value), LD P w h d u → eqN dk n d d = some b → b = true
  | 0, d, b, u, _, e => by
    cases d <;> simp_all [eqN, leafEq]
  | n + 1, d, b, u, l, e => by
    cases d with
    | non => simp_all [eqN, leafEq]
    | bl => simp_all [eqN, leafEq]
    | int => simp_all [eqN, leafEq]
    | str => simp_all [eqN, leafEq]
    | wld => exact l.elim
    | node t xs =>
      cases t with
      | lst =>
        obtain ⟨a, its, _, _, l⟩ := l
        simp only [eqN, if_true] at e
        rw [zip_range] at e
        obtain ⟨f, h1, h2⟩ := allO_map e
        rw [h2, List.all_eq_true]
        intro j hj
        have hj' : j < its.length := by
          have := List.mem_range.mp hj
          rw [LDL.length l]; omega
        exact eqN_self n _ _ _ (l.nth hj') (h1 j hj)
      | tup =>
        obtain ⟨a, its, _, _, l⟩ := l
        simp only [eqN] at e
        rw [zip_range] at e
        obtain ⟨c, hc, e⟩ := Option.map_eq_some_iff.mp e
        obtain ⟨f, h1, h2⟩ := allO_map hc
        have hb : c = true := by
          rw [h2, List.all_eq_true]
          intro j hj
          have hj' : j < its.length := by
            have := List.mem_range.mp hj
            rw [LDL.length l]; omega
          exact eqN_self n _ _ _ (l.nth hj') (h1 j hj)
        rw [← e, hb]
        simp
      | dct ks =>
        obtain ⟨a, kvs, _, _, dd, ek, l⟩ := l
        have hdk : dk = true := by
          cases dk with
          | true => rfl
          | false => simp [eqN] at e
        subst hdk
        simp only [eqN, if_true] at e
        rw [zip_range] at e
        obtain ⟨c, hc, e⟩ := Option.map_eq_some_iff.mp e
        obtain ⟨f, h1, h2⟩ := allO_map hc
        have lx : xs.length = ks.length := by
          have := l.length
          rw [← ek]
          simpa using this.symm
        have nd : ks.Nodup := by rw [← ek]; exact dictOf_nodup dd
        have hb : c = true := by
          rw [h2, List.all_eq_true]
          intro j hj
          have hj0 : j < ks.length := by
            have := List.mem_range.mp hj
            omega
          have q := h1 j hj
          have g1 : ks.getD j default = ks[j] := by simp [List.getD, hj0]
          have g2 : xs.getD j default = xs[j]'(by omega) := by simp [List.getD, show j < xs.length by omega]
          rw [g1, g2, lk_of nd hj0 (by omega)] at q
          have hj' : j < (kvs.map (·.2)).length := by rw [LDL.length l]; omega
          have ln := l.nth hj'
          rw [g2] at ln
          exact eqN_self n _ _ _ ln q
        rw [← e, hb]
        simp
      | dctT => exact l.elim
      | obj => exact l.elim
/-- what a relation must bear that tells == -/
structure TOk (P : Program) (w : World) (s : Shared) (T : Nat → Value → Value → Bool → Prop) (dk : Bool) : Prop where
  leaf : ∀ {n : Nat} {v y : Value} {b : Bool}, (∀ A : Around, A.units + n < cLine → SeqAt.EqAt A s v y b) → T n v y b
  same : ∀ {n : Nat} {v : Value}, T n v v true
  lists : ∀ {n : Nat} {l l' : Addr} {vs vs' : Array Value} {e : Nat → Bool}, l ≠ l' → s.heap.IsList l vs → s.heap.IsList l' vs' → vs.size = vs'.size → (∀ j (h1 : j < vs.size) (h2 : j < vs'.size), T n vs[j] vs'[j] (e j)) → T (n + 1) (.ref l) (.ref l') ((List.range vs.size).all e)
  listsLen : ∀ {n : Nat} {l l' : Addr} {vs vs' : Array Value}, l ≠ l' → s.heap.IsList l vs → s.heap.IsList l' vs' → (vs.size != vs'.size) = true → T (n + 1) (.ref l) (.ref l') false
  tuples : ∀ {n : Nat} {l l' : Addr} {vs vs' : Array Value} {e : Nat → Bool}, l ≠ l' → s.heap.IsTuple l vs → s.heap.IsTuple l' vs' → (∀ j (h1 : j < vs.size) (h2 : j < vs'.size), T n vs[j] vs'[j] (e j)) → T (n + 1) (.ref l) (.ref l') ((List.range (min vs.size vs'.size)).all e && vs.size == vs'.size)
  dicts : dk = true → ∀ {n : Nat} {a b : Addr} {ka kb : List (Key × Value)} {e : Key → Bool}, a ≠ b → (a == sysModules) = false → (b == sysModules) = false → s.heap.DictOf (mixKind P w) a ka → s.heap.DictOf (mixKind P w) b kb → (∀ k v y, (k, v) ∈ ka → valueAt kb k = some y → T n v y (e k)) → T (n + 1) (.ref a) (.ref b) (ka.length == kb.length && ka.all fun p => (valueAt kb p.1).isSome && e p.1)
theorem eqN_tree {s : Shared} {T : Nat → Value → Value → Bool → Prop} {dk : Bool} (TT : TOk P w s T dk) (hs : s.heap = h) : ∀ (n : Nat) (d e : D) (u y : Value) (b : Bool), LD P w h d u → LD P w h e y → eqN dk n d e = some b → T n u y b
  | n, .non, .non, u, y, b, l1, l2, q => by
    cases (show u = _ from l1)
    cases (show y = _ from l2)
    have : b = true := by cases n <;> simpa [eqN, leafEq] using q.symm
    rw [this]; exact TT.same
  | n, .non, .bl _, u, y, b, l1, l2, q => by
    cases (show u = _ from l1)
    cases (show y = _ from l2)
    have : b = false := by cases n <;> simpa [eqN, leafEq] using q.symm
    rw [this]; exact TT.leaf fun A _ => SeqAt.EqAt.none_bool _
  | n, .non, .int _, u, y, b, l1, l2, q => by
    cases (show u = _ from l1)
    obtain ⟨t, l2⟩ := l2
    cases l2
    have : b = false := by cases n <;> simpa [eqN, leafEq] using q.symm
    rw [this]; exact TT.leaf fun A _ => SeqAt.EqAt.none_int _ _
  | n, .non, .str _, u, y, b, l1, l2, q => by
    cases (show u = _ from l1)
    obtain ⟨t, l2⟩ := l2
    cases l2
    have : b = false := by cases n <;> simpa [eqN, leafEq] using q.symm
    rw [this]; exact TT.leaf fun A _ => SeqAt.EqAt.none_str _ _
  | n, .bl x, .non, u, y, b, l1, l2, q => by
    cases (show u = _ from l1)
    cases (show y = _ from l2)
    have : b = false := by cases n <;> simpa [eqN, leafEq] using q.symm
    rw [this]; exact TT.leaf fun A _ => SeqAt.EqAt.bool_none _
  | n, .bl x, .bl z, u, y, b, l1, l2, q => by
    cases (show u = _ from l1)
    cases (show y = _ from l2)
    have : b = (x == z) := by cases n <;> simpa [eqN, leafEq] using q.symm
    rw [this]; exact TT.leaf fun A _ => SeqAt.EqAt.bool_bool _ _
  | n, .bl x, .int z, u, y, b, l1, l2, q => by
    cases (show u = _ from l1)
    obtain ⟨t, l2⟩ := l2
    cases l2
    have : b = ((if x then 1 else 0) == z) := by cases n <;> simpa [eqN, leafEq] using q.symm
    rw [this]; exact TT.leaf fun A _ => SeqAt.EqAt.bool_int _ _ _
  | n, .bl x, .str z, u, y, b, l1, l2, q => by
    cases (show u = _ from l1)
    obtain ⟨t, l2⟩ := l2
    cases l2
    have : b = false := by cases n <;> simpa [eqN, leafEq] using q.symm
    rw [this]; exact TT.leaf fun A _ => SeqAt.EqAt.bool_str _ _ _
  | n, .int x, .non, u, y, b, l1, l2, q => by
    obtain ⟨t, l1⟩ := l1
    cases l1
    cases (show y = _ from l2)
    have : b = false := by cases n <;> simpa [eqN, leafEq] using q.symm
    rw [this]; exact TT.leaf fun A _ => SeqAt.EqAt.int_none _ _
  | n, .int x, .bl z, u, y, b, l1, l2, q => by
    obtain ⟨t, l1⟩ := l1
    cases l1
    cases (show y = _ from l2)
    have : b = (x == (if z then 1 else 0)) := by cases n <;> simpa [eqN, leafEq] using q.symm
    rw [this]; exact TT.leaf fun A _ => SeqAt.EqAt.int_bool _ _ _
  | n, .int x, .int z, u, y, b, l1, l2, q => by
    obtain ⟨t, l1⟩ := l1
    cases l1
    obtain ⟨t', l2⟩ := l2
    cases l2
    have : b = (x == z) := by cases n <;> simpa [eqN, leafEq] using q.symm
    rw [this]; exact TT.leaf fun A _ => SeqAt.EqAt.int_int _ _ _ _
  | n, .int x, .str z, u, y, b, l1, l2, q => by
    obtain ⟨t, l1⟩ := l1
    cases l1
    obtain ⟨t', l2⟩ := l2
    cases l2
    have : b = false := by cases n <;> simpa [eqN, leafEq] using q.symm
    rw [this]; exact TT.leaf fun A _ => SeqAt.EqAt.int_str _ _ _ _
  | n, .str x, .non, u, y, b, l1, l2, q => by
    obtain ⟨t, l1⟩ := l1
    cases l1
    cases (show y = _ from l2)
    have : b = false := by cases n <;> simpa [eqN, leafEq] using q.symm
    rw [this]; exact TT.leaf fun A _ => SeqAt.EqAt.str_none _ _
  | n, .str x, .bl z, u, y, b, l1, l2, q => by
    obtain ⟨t, l1⟩ := l1
    cases l1
    cases (show y = _ from l2)
    have : b = false := by cases n <;> simpa [eqN, leafEq] using q.symm
    rw [this]; exact TT.leaf fun A _ => SeqAt.EqAt.str_bool _ _ _
  | n, .str x, .int z, u, y, b, l1, l2, q => by
    obtain ⟨t, l1⟩ := l1
    cases l1
    obtain ⟨t', l2⟩ := l2
    cases l2
    have : b = false := by cases n <;> simpa [eqN, leafEq] using q.symm
    rw [this]; exact TT.leaf fun A _ => SeqAt.EqAt.str_int _ _ _ _
  | n, .str x, .str z, u, y, b, l1, l2, q => by
    obtain ⟨t, l1⟩ := l1
    cases l1
    obtain ⟨t', l2⟩ := l2
    cases l2
    have : b = (x == z) := by cases n <;> simpa [eqN, leafEq] using q.symm
    rw [this]; exact TT.leaf fun A _ => SeqAt.EqAt.str_str _ _ _ _
  | _, .wld _, _, _, _, _, l1, _, _ => l1.elim
  | _, _, .wld _, _, _, _, _, l2, _ => l2.elim
  | 0, .node t xs, e, _, _, _, _, _, q => by simp [eqN, leafEq] at q
  | 0, .non, .node _ _, _, _, _, _, _, q => by simp [eqN, leafEq] at q
  | 0, .bl _, .node _ _, _, _, _, _, _, q => by simp [eqN, leafEq] at q
  | 0, .int _, .node _ _, _, _, _, _, _, q => by simp [eqN, leafEq] at q
  | 0, .str _, .node _ _, _, _, _, _, _, q => by simp [eqN, leafEq] at q
  | n + 1, .node t xs, .node t' ys, u, y, b, l1, l2, q => by
    cases t with
    | dctT => exact l1.elim
    | obj => exact l1.elim
    | lst =>
      obtain ⟨a, its, rfl, a2, a3⟩ := l1
      cases t' with
      | dctT => exact l2.elim
      | obj => exact l2.elim
      | dct => simp [eqN] at q
      | tup =>
        obtain ⟨a', its', rfl, b2, b3⟩ := l2
        have : b = false := by simpa [eqN] using q.symm
        rw [this]
        exact TT.leaf fun A hA => SeqAt.EqAt.list_tuple (hs ▸ a2) (hs ▸ b2) (by omega)
      | lst =>
        obtain ⟨a', its', rfl, b2, b3⟩ := l2
        by_cases ha : a = a'
        · subst ha
          have e : its = its' := by simpa using congrArg Array.toList (isList_inj a2 b2)
          subst e
          have e2 := LDL.inj a3 b3
          subst e2
          rw [eqN_self (dk := dk) (P := P) (w := w) (h := h) (n + 1) (.node .lst xs) b (.ref a) ⟨a, its, rfl, a2, a3⟩ q]
          exact TT.same
        · by_cases hl : xs.length = ys.length
          · simp only [eqN, hl, if_true] at q
            rw [zip_range] at q
            obtain ⟨f, h1, h2⟩ := allO_map q
            have s1 : its.toArray.size = xs.length := by simpa using a3.length
            have s2 : its'.toArray.size = ys.length := by simpa using b3.length
            rw [h2, show min xs.length ys.length = its.toArray.size by omega]
            refine TT.lists ha (hs ▸ a2) (hs ▸ b2) (by omega) fun j j1 j2 => ?_
            have i1 : j < its.length := by simpa using j1
            have i2 : j < its'.length := by simpa using j2
            have r := eqN_tree TT hs n _ _ _ _ _ (a3.nth i1) (b3.nth i2) (h1 j (List.mem_range.mpr (by omega)))
            simpa using r
          · simp only [eqN, hl, if_false] at q
            have : b = false := by simpa using q.symm
            rw [this]
            refine TT.listsLen ha (hs ▸ a2) (hs ▸ b2) ?_
            have s1 : its.toArray.size = xs.length := by simpa using a3.length
            have s2 : its'.toArray.size = ys.length := by simpa using b3.length
            rw [s1, s2]
            simpa using hl
    | tup =>
      obtain ⟨a, its, rfl, a2, a3⟩ := l1
      cases t' with
      | dctT => exact l2.elim
      | obj => exact l2.elim
      | dct => simp [eqN] at q
      | lst =>
        obtain ⟨a', its', rfl, b2, b3⟩ := l2
        have : b = false := by simpa [eqN] using q.symm
        rw [this]
        exact TT.leaf fun A hA => SeqAt.EqAt.tuple_list (hs ▸ a2) (hs ▸ b2) (by omega)
      | tup =>
        obtain ⟨a', its', rfl, b2, b3⟩ := l2
        by_cases ha : a = a'
        · subst ha
          have e : its = its' := by simpa using congrArg Array.toList (isTuple_inj a2 b2)
          subst e
          have e2 := LDL.inj a3 b3
          subst e2
          rw [eqN_self (dk := dk) (P := P) (w := w) (h := h) (n + 1) (.node .tup xs) b (.ref a) ⟨a, its, rfl, a2, a3⟩ q]
          exact TT.same
        · simp only [eqN] at q
          rw [zip_range] at q
          obtain ⟨c, hc, e⟩ := Option.map_eq_some_iff.mp q
          obtain ⟨f, h1, h2⟩ := allO_map hc
          have s1 : its.toArray.size = xs.length := by simpa using a3.length
          have s2 : its'.toArray.size = ys.length := by simpa using b3.length
          rw [← e, h2, ← s1, ← s2]
          refine TT.tuples ha (hs ▸ a2) (hs ▸ b2) fun j j1 j2 => ?_
          have i1 : j < its.length := by simpa using j1
          have i2 : j < its'.length := by simpa using j2
          have r := eqN_tree TT hs n _ _ _ _ _ (a3.nth i1) (b3.nth i2) (h1 j (List.mem_range.mpr (by omega)))
          simpa using r
    | dct ks =>
      obtain ⟨a, ka, rfl, a1, a2, a4, a3⟩ := l1
      cases t' with
      | dctT => exact l2.elim
      | obj => exact l2.elim
      | lst => simp [eqN] at q
      | tup => simp [eqN] at q
      | dct ls =>
        obtain ⟨a', kb, rfl, b1, b2, b4, b3⟩ := l2
        have hdk : dk = true := by
          cases dk with
          | true => rfl
          | false => simp [eqN] at q
        subst hdk
        by_cases ha : a = a'
        · subst ha
          have e := dictOf_inj a2 b2
          subst e
          have e2 := LDL.inj a3 b3
          subst e2
          have e3 : ks = ls := a4.symm.trans b4
          subst e3
          rw [eqN_self (dk := true) (P := P) (w := w) (h := h) (n + 1) (.node (.dct ks) xs) b (.ref a) ⟨a, ka, rfl, a1, a2, a4, a3⟩ q]
          exact TT.same
        · simp only [eqN, if_true] at q
          rw [zip_range] at q
          obtain ⟨c, hc, e⟩ := Option.map_eq_some_iff.mp q
          obtain ⟨f, h1, h2⟩ := allO_map hc
          have lx : xs.length = ks.length := by
            have := a3.length
            rw [← a4]
            simpa using this.symm
          have la : ka.length = ks.length := by rw [← a4]; simp
          have lb : kb.length = ls.length := by rw [← b4]; simp
          have nd : ks.Nodup := by rw [← a4]; exact dictOf_nodup a2
          obtain ⟨ev, hev⟩ : ∃ ev : Key → Bool, ∀ j (hj : j < ks.length), ∀ yy, lk ls ys ks[j] = some yy → ev ks[j] = f j := by
            refine ⟨fun k => match lk ks xs k, lk ls ys k with | some x, some y => (eqN true n x y).getD false | _, _ => false, fun j hj yy hy => ?_⟩
            have q1 := h1 j (List.mem_range.mpr (by omega))
            have g1 : ks.getD j default = ks[j] := by simp [List.getD, hj]
            have g2 : xs.getD j default = xs[j]'(by omega) := by simp [List.getD, show j < xs.length by omega]
            rw [g1, g2] at q1
            simp only [lk_of nd hj (by omega : j < xs.length), hy] at q1 ⊢
            rw [q1]
            rfl
          have res : c = ka.all fun p => (valueAt kb p.1).isSome && ev p.1 := by
            rw [h2]
            rw [Bool.eq_iff_iff, List.all_eq_true, List.all_eq_true]
            have one : ∀ j (hj : j < ks.length), (f j = true ↔ ((valueAt kb ks[j]).isSome && ev ks[j]) = true) := fun j hj => by
              have q1 := h1 j (List.mem_range.mpr (by omega))
              have g1 : ks.getD j default = ks[j] := by simp [List.getD, hj]
              rw [g1] at q1
              rcases lk_val b4 b3 ks[j] with ⟨z1, z2⟩ | ⟨yy, uu, z1, z2, _⟩
              · rw [z1] at q1
                rw [z2]
                have : f j = false := by simpa using q1.symm
                simp [this]
              · rw [z2, hev j hj yy z1]
                simp
            constructor
            · intro z p hp
              obtain ⟨j, hj, e⟩ := List.getElem_of_mem hp
              have hj' : j < ks.length := by omega
              have ep : p.1 = ks[j] := by
                have : (ka.map (·.1))[j]'(by simpa using hj) = ks[j] := by simp only [a4]
                rw [← this]
                simp [e]
              rw [ep]
              exact (one j hj').mp (z j (List.mem_range.mpr (by omega)))
            · intro z j hj
              have hj' : j < ks.length := by have := List.mem_range.mp hj; omega
              have hm : (ka[j]'(by omega)).1 = ks[j] := by
                have : (ka.map (·.1))[j]'(by simpa using (by omega : j < ka.length)) = ks[j] := by simp only [a4]
                rw [← this]
                simp
              refine (one j hj').mpr ?_
              rw [← hm]
              exact z _ (List.getElem_mem (by omega))
          rw [← e, res, ← la, ← lb]
          refine TT.dicts rfl ha a1 b1 (hs ▸ a2) (hs ▸ b2) fun k v y' hm hv => ?_
          obtain ⟨j, hj, e⟩ := List.getElem_of_mem hm
          have hj' : j < ks.length := by omega
          have ek : ks[j] = k := by
            have : (ka.map (·.1))[j]'(by simpa using hj) = ks[j] := by simp only [a4]
            rw [← this]
            simp [e]
          have q1 := h1 j (List.mem_range.mpr (by omega))
          have g1 : ks.getD j default = ks[j] := by simp [List.getD, hj']
          rw [g1, ek] at q1
          rcases lk_val b4 b3 k with ⟨z1, z2⟩ | ⟨yy, uu, z1, z2, z3⟩
          · rw [z2] at hv; cases hv
          · rw [z2] at hv
            cases hv
            rw [z1] at q1
            have hv' := hev j hj' yy (by rw [ek]; exact z1)
            rw [ek] at hv'
            rw [hv']
            have i1 : j < (ka.map (·.2)).length := by simpa using hj
            have r1 := a3.nth i1
            have e2 : (ka.map (·.2))[j] = v := by simp [e]
            rw [e2] at r1
            exact eqN_tree TT hs n _ _ _ _ _ r1 z3 q1
  | n + 1, .node t xs, .non, u, y, b, l1, l2, q => by
    cases (show y = _ from l2)
    cases t with
    | lst => obtain ⟨a, its, rfl, a2, a3⟩ := l1; have : b = false := (by simpa [eqN, isLeaf, seqTag] using q.symm); rw [this]; exact TT.leaf fun A hA => SeqAt.EqAt.list_none (hs ▸ a2) (by omega)
    | tup => obtain ⟨a, its, rfl, a2, a3⟩ := l1; have : b = false := (by simpa [eqN, isLeaf, seqTag] using q.symm); rw [this]; exact TT.leaf fun A hA => SeqAt.EqAt.tuple_none (hs ▸ a2) (by omega)
    | _ => simp [eqN, seqTag] at q
  | n + 1, .node t xs, .bl z, u, y, b, l1, l2, q => by
    cases (show y = _ from l2)
    cases t with
    | lst => obtain ⟨a, its, rfl, a2, a3⟩ := l1; have : b = false := (by simpa [eqN, isLeaf, seqTag] using q.symm); rw [this]; exact TT.leaf fun A hA => SeqAt.EqAt.list_bool _ (hs ▸ a2) (by omega)
    | tup => obtain ⟨a, its, rfl, a2, a3⟩ := l1; have : b = false := (by simpa [eqN, isLeaf, seqTag] using q.symm); rw [this]; exact TT.leaf fun A hA => SeqAt.EqAt.tuple_bool _ (hs ▸ a2) (by omega)
    | _ => simp [eqN, seqTag] at q
  | n + 1, .node t xs, .int z, u, y, b, l1, l2, q => by
    obtain ⟨tk, l2⟩ := l2
    cases l2
    cases t with
    | lst => obtain ⟨a, its, rfl, a2, a3⟩ := l1; have : b = false := (by simpa [eqN, isLeaf, seqTag] using q.symm); rw [this]; exact TT.leaf fun A hA => SeqAt.EqAt.list_int _ _ (hs ▸ a2) (by omega)
    | tup => obtain ⟨a, its, rfl, a2, a3⟩ := l1; have : b = false := (by simpa [eqN, isLeaf, seqTag] using q.symm); rw [this]; exact TT.leaf fun A hA => SeqAt.EqAt.tuple_int _ _ (hs ▸ a2) (by omega)
    | _ => simp [eqN, seqTag] at q
  | n + 1, .node t xs, .str z, u, y, b, l1, l2, q => by
    obtain ⟨tk, l2⟩ := l2
    cases l2
    cases t with
    | lst => obtain ⟨a, its, rfl, a2, a3⟩ := l1; have : b = false := (by simpa [eqN, isLeaf, seqTag] using q.symm); rw [this]; exact TT.leaf fun A hA => SeqAt.EqAt.list_str _ _ (hs ▸ a2) (by omega)
    | tup => obtain ⟨a, its, rfl, a2, a3⟩ := l1; have : b = false := (by simpa [eqN, isLeaf, seqTag] using q.symm); rw [this]; exact TT.leaf fun A hA => SeqAt.EqAt.tuple_str _ _ (hs ▸ a2) (by omega)
    | _ => simp [eqN, seqTag] at q
  | n + 1, .non, .node t xs, u, y, b, l2, l1, q => by
    cases (show u = _ from l2)
    cases t with
    | lst => obtain ⟨a, its, rfl, a2, a3⟩ := l1; have : b = false := (by simpa [eqN, isLeaf, seqTag] using q.symm); rw [this]; exact TT.leaf fun A hA => SeqAt.EqAt.none_list (hs ▸ a2) (by omega)
    | tup => obtain ⟨a, its, rfl, a2, a3⟩ := l1; have : b = false := (by simpa [eqN, isLeaf, seqTag] using q.symm); rw [this]; exact TT.leaf fun A hA => SeqAt.EqAt.none_tuple (hs ▸ a2) (by omega)
    | _ => simp [eqN, isLeaf, seqTag] at q
  | n + 1, .bl z, .node t xs, u, y, b, l2, l1, q => by
    cases (show u = _ from l2)
    cases t with
    | lst => obtain ⟨a, its, rfl, a2, a3⟩ := l1; have : b = false := (by simpa [eqN, isLeaf, seqTag] using q.symm); rw [this]; exact TT.leaf fun A hA => SeqAt.EqAt.bool_list _ (hs ▸ a2) (by omega)
    | tup => obtain ⟨a, its, rfl, a2, a3⟩ := l1; have : b = false := (by simpa [eqN, isLeaf, seqTag] using q.symm); rw [this]; exact TT.leaf fun A hA => SeqAt.EqAt.bool_tuple _ (hs ▸ a2) (by omega)
    | _ => simp [eqN, isLeaf, seqTag] at q
  | n + 1, .int z, .node t xs, u, y, b, l2, l1, q => by
    obtain ⟨tk, l2⟩ := l2
    cases l2
    cases t with
    | lst => obtain ⟨a, its, rfl, a2, a3⟩ := l1; have : b = false := (by simpa [eqN, isLeaf, seqTag] using q.symm); rw [this]; exact TT.leaf fun A hA => SeqAt.EqAt.int_list _ _ (hs ▸ a2) (by omega)
    | tup => obtain ⟨a, its, rfl, a2, a3⟩ := l1; have : b = false := (by simpa [eqN, isLeaf, seqTag] using q.symm); rw [this]; exact TT.leaf fun A hA => SeqAt.EqAt.int_tuple _ _ (hs ▸ a2) (by omega)
    | _ => simp [eqN, isLeaf, seqTag] at q
  | n + 1, .str z, .node t xs, u, y, b, l2, l1, q => by
    obtain ⟨tk, l2⟩ := l2
    cases l2
    cases t with
    | lst => obtain ⟨a, its, rfl, a2, a3⟩ := l1; have : b = false := (by simpa [eqN, isLeaf, seqTag] using q.symm); rw [this]; exact TT.leaf fun A hA => SeqAt.EqAt.str_list _ _ (hs ▸ a2) (by omega)
    | tup => obtain ⟨a, its, rfl, a2, a3⟩ := l1; have : b = false := (by simpa [eqN, isLeaf, seqTag] using q.symm); rw [this]; exact TT.leaf fun A hA => SeqAt.EqAt.str_tuple _ _ (hs ▸ a2) (by omega)
    | _ => simp [eqN, isLeaf, seqTag] at q
theorem tree_ok {s : Shared} : TOk P w s (EqTree P w s) true :=
  ⟨fun h => .leaf h, .same, fun a b c d e => .lists a b c d e, fun a b c d => .listsLen a b c d, fun a b c d => .tuples a b c d, fun _ => fun a b c d e f => .dicts (knd := mixKind P w) a b c d e f⟩
theorem at_ok {s : Shared} : TOk P w s (fun n v y b => ∀ A : Around, A.units + n < cLine → SeqAt.EqAt A s v y b) false where
  leaf := fun h => h
  same := fun A _ => SeqAt.EqAt.same _
  lists := fun hne hl hl' hsz ih A hu => SeqAt.EqAt.of_refs hne (SeqAt.RcAt.lists hl hl' hsz (by omega) fun j h1 h2 => ih j h1 h2 A.in1 (by show A.units + 1 + _ < cLine; omega))
  listsLen := fun hne hl hl' hsz A hu => SeqAt.EqAt.of_refs hne (SeqAt.RcAt.lists_lengths hl hl' hsz (by omega))
  tuples := fun hne hl hl' ih A hu => SeqAt.EqAt.of_refs hne (SeqAt.RcAt.tuples hl hl' (by omega) fun j h1 h2 => ih j h1 h2 A.in1 (by show A.units + 1 + _ < cLine; omega))
  dicts := fun e => nomatch e
end
end DL

/-! D4: operators by what they give. -/
namespace DL
open PySem PySem.Spec PyProof.Rows L2 PySem.W

section
variable {P : Program} {w : World} {h : Heap}
/-- two dicts, entry by entry -/
theorem dct_parts {n : Nat} {a : Addr} {ka kb : List (Key × Value)} {ks ls : List Key} {xs ys : List D} {b : Bool} (a2 : h.DictOf (mixKind P w) a ka) (a4 : ka.map (·.1) = ks) (a3 : LDL P w h xs (ka.map (·.2))) (b4 : kb.map (·.1) = ls) (b3 : LDL P w h ys (kb.map (·.2)))
    (q : eqN true (n + 1) (.node (.dct ks) xs) (.node (.dct ls) ys) = some b) :
    ∃ ev : Key → Bool, (∀ k v y, (k, v) ∈ ka → valueAt kb k = some y → ∃ dx dy, LD P w h dx v ∧ LD P w h dy y ∧ eqN true n dx dy = some (ev k)) ∧ b = (ka.length == kb.length && ka.all fun p => (valueAt kb p.1).isSome && ev p.1) := by
  simp only [eqN, if_true] at q
  rw [zip_range] at q
  obtain ⟨c, hc, e⟩ := Option.map_eq_some_iff.mp q
  obtain ⟨f, h1, h2⟩ := allO_map hc
  have lx : xs.length = ks.length := by
    have := a3.length
    rw [← a4]
    simpa using this.symm
  have la : ka.length = ks.length := by rw [← a4]; simp
  have lb : kb.length = ls.length := by rw [← b4]; simp
  have nd : ks.Nodup := by rw [← a4]; exact dictOf_nodup a2
  have kj : ∀ j (hj : j < ks.length), (ka[j]'(by omega)).1 = ks[j] := fun j hj => by
    have : (ka.map (·.1))[j]'(by simpa using (by omega : j < ka.length)) = ks[j] := by simp only [a4]
    rw [← this]
    simp
  obtain ⟨ev, hev⟩ : ∃ ev : Key → Bool, ∀ j (hj : j < ks.length), ∀ yy, lk ls ys ks[j] = some yy → ev ks[j] = f j := by
    refine ⟨fun k => match lk ks xs k, lk ls ys k with | some x, some y => (eqN true n x y).getD false | _, _ => false, fun j hj yy hy => ?_⟩
    have q1 := h1 j (List.mem_range.mpr (by omega))
    have g1 : ks.getD j default = ks[j] := by simp [List.getD, hj]
    have g2 : xs.getD j default = xs[j]'(by omega) := by simp [List.getD, show j < xs.length by omega]
    rw [g1, g2] at q1
    simp only [lk_of nd hj (by omega : j < xs.length), hy] at q1 ⊢
    rw [q1]
    rfl
  have res : c = ka.all fun p => (valueAt kb p.1).isSome && ev p.1 := by
    rw [h2, Bool.eq_iff_iff, List.all_eq_true, List.all_eq_true]
    have one : ∀ j (hj : j < ks.length), (f j = true ↔ ((valueAt kb ks[j]).isSome && ev ks[j]) = true) := fun j hj => by
      have q1 := h1 j (List.mem_range.mpr (by omega))
      have g1 : ks.getD j default = ks[j] := by simp [List.getD, hj]
      rw [g1] at q1
      rcases lk_val b4 b3 ks[j] with ⟨z1, z2⟩ | ⟨yy, uu, z1, z2, _⟩
      · rw [z1] at q1
        rw [z2]
        have : f j = false := by simpa using q1.symm
        simp [this]
      · rw [z2, hev j hj yy z1]
        simp
    constructor
    · intro z p hp
      obtain ⟨j, hj, e⟩ := List.getElem_of_mem hp
      have hj' : j < ks.length := by omega
      have ep : p.1 = ks[j] := by rw [← kj j hj', e]
      rw [ep]
      exact (one j hj').mp (z j (List.mem_range.mpr (by omega)))
    · intro z j hj
      have hj' : j < ks.length := by have := List.mem_range.mp hj; omega
      refine (one j hj').mpr ?_
      rw [← kj j hj']
      exact z _ (List.getElem_mem (by omega))
  refine ⟨ev, fun k v y' hm hv => ?_, by rw [← e, res, la, lb]⟩
  obtain ⟨j, hj, e⟩ := List.getElem_of_mem hm
  have hj' : j < ks.length := by omega
  have ek : ks[j] = k := by rw [← kj j hj', e]
  have q1 := h1 j (List.mem_range.mpr (by omega))
  have g1 : ks.getD j default = ks[j] := by simp [List.getD, hj']
  rw [g1, ek] at q1
  rcases lk_val b4 b3 k with ⟨z1, z2⟩ | ⟨yy, uu, z1, z2, z3⟩
  · rw [z2] at hv; cases hv
  · rw [z2] at hv
    cases hv
    rw [z1] at q1
    have hv' := hev j hj' yy (by rw [ek]; exact z1)
    rw [ek] at hv'
    rw [hv']
    have i1 : j < (ka.map (·.2)).length := by simpa using hj
    have r1 := a3.nth i1
    have e2 : (ka.map (·.2))[j] = v := by simp [e]
    rw [e2] at r1
    exact ⟨_, _, r1, z3, q1⟩
end
section
variable {P : Program} {w : World}
theorem eq_top {s : Shared} {A : Around} (n : Nat) (hu : A.units + (n + 1) < cLine) : ∀ (d e : D) (u y : Value) (b : Bool), LD P w s.heap d u → LD P w s.heap e y → eqN true (n + 1) d e = some b → ∀ (E : Value → Shared → Prop) (Q : Value → Shared → Prop), Q (.bool (b)) s → wpAny (model P w) A (compareOp .Eq u y) Q E s
  | .non, .non, u, y, b, l1, l2, q => by
    cases (show u = _ from l1)
    cases (show y = _ from l2)
    have hb : b = true := by simpa [eqN, leafEq] using q.symm
    rw [hb]
    exact fun E Q h => SeqAt.RcAt.none_none P w E Q h
  | .non, .bl z, u, y, b, l1, l2, q => by
    cases (show u = _ from l1)
    cases (show y = _ from l2)
    have hb : b = false := by simpa [eqN, leafEq] using q.symm
    rw [hb]
    exact fun E Q h => SeqAt.RcAt.none_bool _ P w E Q h
  | .non, .int z, u, y, b, l1, l2, q => by
    cases (show u = _ from l1)
    obtain ⟨t2, l2⟩ := l2
    cases l2
    have hb : b = false := by simpa [eqN, leafEq] using q.symm
    rw [hb]
    exact fun E Q h => SeqAt.RcAt.none_int _ _ P w E Q h
  | .non, .str z, u, y, b, l1, l2, q => by
    cases (show u = _ from l1)
    obtain ⟨t2, l2⟩ := l2
    cases l2
    have hb : b = false := by simpa [eqN, leafEq] using q.symm
    rw [hb]
    exact fun E Q h => SeqAt.RcAt.none_str _ _ P w E Q h
  | .bl x, .non, u, y, b, l1, l2, q => by
    cases (show u = _ from l1)
    cases (show y = _ from l2)
    have hb : b = false := by simpa [eqN, leafEq] using q.symm
    rw [hb]
    exact fun E Q h => SeqAt.RcAt.bool_none _ P w E Q h
  | .bl x, .bl z, u, y, b, l1, l2, q => by
    cases (show u = _ from l1)
    cases (show y = _ from l2)
    have hb : b = (x == z) := by simpa [eqN, leafEq] using q.symm
    rw [hb]
    exact fun E Q h => SeqAt.RcAt.bool_bool _ _ P w E Q h
  | .bl x, .int z, u, y, b, l1, l2, q => by
    cases (show u = _ from l1)
    obtain ⟨t2, l2⟩ := l2
    cases l2
    have hb : b = ((if x then 1 else 0) == z) := by simpa [eqN, leafEq] using q.symm
    rw [hb]
    exact fun E Q h => SeqAt.RcAt.bool_int _ _ _ P w E Q h
  | .bl x, .str z, u, y, b, l1, l2, q => by
    cases (show u = _ from l1)
    obtain ⟨t2, l2⟩ := l2
    cases l2
    have hb : b = false := by simpa [eqN, leafEq] using q.symm
    rw [hb]
    exact fun E Q h => SeqAt.RcAt.bool_str _ _ _ P w E Q h
  | .int x, .non, u, y, b, l1, l2, q => by
    obtain ⟨t1, l1⟩ := l1
    cases l1
    cases (show y = _ from l2)
    have hb : b = false := by simpa [eqN, leafEq] using q.symm
    rw [hb]
    exact fun E Q h => SeqAt.RcAt.int_none _ _ P w E Q h
  | .int x, .bl z, u, y, b, l1, l2, q => by
    obtain ⟨t1, l1⟩ := l1
    cases l1
    cases (show y = _ from l2)
    have hb : b = (x == (if z then 1 else 0)) := by simpa [eqN, leafEq] using q.symm
    rw [hb]
    exact fun E Q h => SeqAt.RcAt.int_bool _ _ _ P w E Q h
  | .int x, .int z, u, y, b, l1, l2, q => by
    obtain ⟨t1, l1⟩ := l1
    cases l1
    obtain ⟨t2, l2⟩ := l2
    cases l2
    have hb : b = (x == z) := by simpa [eqN, leafEq] using q.symm
    rw [hb]
    exact fun E Q h => SeqAt.RcAt.int_int _ _ _ _ P w E Q h
  | .int x, .str z, u, y, b, l1, l2, q => by
    obtain ⟨t1, l1⟩ := l1
    cases l1
    obtain ⟨t2, l2⟩ := l2
    cases l2
    have hb : b = false := by simpa [eqN, leafEq] using q.symm
    rw [hb]
    exact fun E Q h => SeqAt.RcAt.int_str _ _ _ _ P w E Q h
  | .str x, .non, u, y, b, l1, l2, q => by
    obtain ⟨t1, l1⟩ := l1
    cases l1
    cases (show y = _ from l2)
    have hb : b = false := by simpa [eqN, leafEq] using q.symm
    rw [hb]
    exact fun E Q h => SeqAt.RcAt.str_none _ _ P w E Q h
  | .str x, .bl z, u, y, b, l1, l2, q => by
    obtain ⟨t1, l1⟩ := l1
    cases l1
    cases (show y = _ from l2)
    have hb : b = false := by simpa [eqN, leafEq] using q.symm
    rw [hb]
    exact fun E Q h => SeqAt.RcAt.str_bool _ _ _ P w E Q h
  | .str x, .int z, u, y, b, l1, l2, q => by
    obtain ⟨t1, l1⟩ := l1
    cases l1
    obtain ⟨t2, l2⟩ := l2
    cases l2
    have hb : b = false := by simpa [eqN, leafEq] using q.symm
    rw [hb]
    exact fun E Q h => SeqAt.RcAt.str_int _ _ _ _ P w E Q h
  | .str x, .str z, u, y, b, l1, l2, q => by
    obtain ⟨t1, l1⟩ := l1
    cases l1
    obtain ⟨t2, l2⟩ := l2
    cases l2
    have hb : b = (x == z) := by simpa [eqN, leafEq] using q.symm
    rw [hb]
    exact fun E Q h => SeqAt.RcAt.str_str _ _ _ _ P w E Q h
  | .wld _, _, _, _, _, l1, _, _ => l1.elim
  | .non, .wld _, _, _, _, _, l2, _ => l2.elim
  | .bl _, .wld _, _, _, _, _, l2, _ => l2.elim
  | .int _, .wld _, _, _, _, _, l2, _ => l2.elim
  | .str _, .wld _, _, _, _, _, l2, _ => l2.elim
  | .node _ _, .wld _, _, _, _, _, l2, _ => l2.elim
  | .non, .node t xs, u, y, b, l1, l2, q => by
    cases (show u = _ from l1)
    cases t with
    | lst =>
      obtain ⟨a, its, rfl, a2, a3⟩ := l2
      have hb : b = false := (by simpa [eqN, isLeaf, seqTag] using q.symm)
      rw [hb]
      exact fun E Q h => SeqAt.RcAt.none_list  a2 (by omega) P w E Q h
    | tup =>
      obtain ⟨a, its, rfl, a2, a3⟩ := l2
      have hb : b = false := (by simpa [eqN, isLeaf, seqTag] using q.symm)
      rw [hb]
      exact fun E Q h => SeqAt.RcAt.none_tuple  a2 (by omega) P w E Q h
    | _ => simp [eqN, isLeaf, seqTag] at q
  | .node t xs, .non, u, y, b, l1, l2, q => by
    cases (show y = _ from l2)
    cases t with
    | lst =>
      obtain ⟨a, its, rfl, a2, a3⟩ := l1
      have hb : b = false := (by simpa [eqN, isLeaf, seqTag] using q.symm)
      rw [hb]
      exact fun E Q h => SeqAt.RcAt.list_none  a2 (by omega) P w E Q h
    | tup =>
      obtain ⟨a, its, rfl, a2, a3⟩ := l1
      have hb : b = false := (by simpa [eqN, isLeaf, seqTag] using q.symm)
      rw [hb]
      exact fun E Q h => SeqAt.RcAt.tuple_none  a2 (by omega) P w E Q h
    | _ => simp [eqN, isLeaf, seqTag] at q
  | .bl x, .node t xs, u, y, b, l1, l2, q => by
    cases (show u = _ from l1)
    cases t with
    | lst =>
      obtain ⟨a, its, rfl, a2, a3⟩ := l2
      have hb : b = false := (by simpa [eqN, isLeaf, seqTag] using q.symm)
      rw [hb]
      exact fun E Q h => SeqAt.RcAt.bool_list _ a2 (by omega) P w E Q h
    | tup =>
      obtain ⟨a, its, rfl, a2, a3⟩ := l2
      have hb : b = false := (by simpa [eqN, isLeaf, seqTag] using q.symm)
      rw [hb]
      exact fun E Q h => SeqAt.RcAt.bool_tuple _ a2 (by omega) P w E Q h
    | _ => simp [eqN, isLeaf, seqTag] at q
  | .node t xs, .bl z, u, y, b, l1, l2, q => by
    cases (show y = _ from l2)
    cases t with
    | lst =>
      obtain ⟨a, its, rfl, a2, a3⟩ := l1
      have hb : b = false := (by simpa [eqN, isLeaf, seqTag] using q.symm)
      rw [hb]
      exact fun E Q h => SeqAt.RcAt.list_bool _ a2 (by omega) P w E Q h
    | tup =>
      obtain ⟨a, its, rfl, a2, a3⟩ := l1
      have hb : b = false := (by simpa [eqN, isLeaf, seqTag] using q.symm)
      rw [hb]
      exact fun E Q h => SeqAt.RcAt.tuple_bool _ a2 (by omega) P w E Q h
    | _ => simp [eqN, isLeaf, seqTag] at q
  | .int x, .node t xs, u, y, b, l1, l2, q => by
    obtain ⟨t1, l1⟩ := l1
    cases l1
    cases t with
    | lst =>
      obtain ⟨a, its, rfl, a2, a3⟩ := l2
      have hb : b = false := (by simpa [eqN, isLeaf, seqTag] using q.symm)
      rw [hb]
      exact fun E Q h => SeqAt.RcAt.int_list _ _ a2 (by omega) P w E Q h
    | tup =>
      obtain ⟨a, its, rfl, a2, a3⟩ := l2
      have hb : b = false := (by simpa [eqN, isLeaf, seqTag] using q.symm)
      rw [hb]
      exact fun E Q h => SeqAt.RcAt.int_tuple _ _ a2 (by omega) P w E Q h
    | _ => simp [eqN, isLeaf, seqTag] at q
  | .node t xs, .int z, u, y, b, l1, l2, q => by
    obtain ⟨t2, l2⟩ := l2
    cases l2
    cases t with
    | lst =>
      obtain ⟨a, its, rfl, a2, a3⟩ := l1
      have hb : b = false := (by simpa [eqN, isLeaf, seqTag] using q.symm)
      rw [hb]
      exact fun E Q h => SeqAt.RcAt.list_int _ _ a2 (by omega) P w E Q h
    | tup =>
      obtain ⟨a, its, rfl, a2, a3⟩ := l1
      have hb : b = false := (by simpa [eqN, isLeaf, seqTag] using q.symm)
      rw [hb]
      exact fun E Q h => SeqAt.RcAt.tuple_int _ _ a2 (by omega) P w E Q h
    | _ => simp [eqN, isLeaf, seqTag] at q
  | .str x, .node t xs, u, y, b, l1, l2, q => by
    obtain ⟨t1, l1⟩ := l1
    cases l1
    cases t with
    | lst =>
      obtain ⟨a, its, rfl, a2, a3⟩ := l2
      have hb : b = false := (by simpa [eqN, isLeaf, seqTag] using q.symm)
      rw [hb]
      exact fun E Q h => SeqAt.RcAt.str_list _ _ a2 (by omega) P w E Q h
    | tup =>
      obtain ⟨a, its, rfl, a2, a3⟩ := l2
      have hb : b = false := (by simpa [eqN, isLeaf, seqTag] using q.symm)
      rw [hb]
      exact fun E Q h => SeqAt.RcAt.str_tuple _ _ a2 (by omega) P w E Q h
    | _ => simp [eqN, isLeaf, seqTag] at q
  | .node t xs, .str z, u, y, b, l1, l2, q => by
    obtain ⟨t2, l2⟩ := l2
    cases l2
    cases t with
    | lst =>
      obtain ⟨a, its, rfl, a2, a3⟩ := l1
      have hb : b = false := (by simpa [eqN, isLeaf, seqTag] using q.symm)
      rw [hb]
      exact fun E Q h => SeqAt.RcAt.list_str _ _ a2 (by omega) P w E Q h
    | tup =>
      obtain ⟨a, its, rfl, a2, a3⟩ := l1
      have hb : b = false := (by simpa [eqN, isLeaf, seqTag] using q.symm)
      rw [hb]
      exact fun E Q h => SeqAt.RcAt.tuple_str _ _ a2 (by omega) P w E Q h
    | _ => simp [eqN, isLeaf, seqTag] at q
  | .node t xs, .node t' ys, u, y, b, l1, l2, q => by
    cases t with
    | dctT => exact l1.elim
    | obj => exact l1.elim
    | lst =>
      obtain ⟨a, its, rfl, a2, a3⟩ := l1
      cases t' with
      | dctT => exact l2.elim
      | obj => exact l2.elim
      | dct => simp [eqN] at q
      | tup =>
        obtain ⟨a', its', rfl, b2, b3⟩ := l2
        have hb : b = false := by simpa [eqN] using q.symm
        rw [hb]
        exact fun E Q h => SeqAt.RcAt.list_tuple a2 b2 (by omega) P w E Q h
      | lst =>
        obtain ⟨a', its', rfl, b2, b3⟩ := l2
        have s1 : its.toArray.size = xs.length := by simpa using a3.length
        have s2 : its'.toArray.size = ys.length := by simpa using b3.length
        by_cases hl : xs.length = ys.length
        · simp only [eqN, hl, if_true] at q
          rw [zip_range] at q
          obtain ⟨f, h1, h2⟩ := allO_map q
          rw [h2, show min xs.length ys.length = its.toArray.size by omega]
          refine fun E Q h => eq_listsT a2 b2 (by omega) (fun j j1 j2 => ?_) hu h
          have i1 : j < its.length := by simpa using j1
          have i2 : j < its'.length := by simpa using j2
          have r := eqN_tree tree_ok rfl n _ _ _ _ _ (a3.nth i1) (b3.nth i2) (h1 j (List.mem_range.mpr (by omega)))
          simpa using r
        · simp only [eqN, hl, if_false] at q
          have hb : b = false := by simpa using q.symm
          rw [hb]
          exact fun E Q h => SeqAt.RcAt.lists_lengths a2 b2 (by rw [s1, s2]; simpa using hl) (by omega) P w E Q h
    | tup =>
      obtain ⟨a, its, rfl, a2, a3⟩ := l1
      cases t' with
      | dctT => exact l2.elim
      | obj => exact l2.elim
      | dct => simp [eqN] at q
      | lst =>
        obtain ⟨a', its', rfl, b2, b3⟩ := l2
        have hb : b = false := by simpa [eqN] using q.symm
        rw [hb]
        exact fun E Q h => SeqAt.RcAt.tuple_list a2 b2 (by omega) P w E Q h
      | tup =>
        obtain ⟨a', its', rfl, b2, b3⟩ := l2
        have s1 : its.toArray.size = xs.length := by simpa using a3.length
        have s2 : its'.toArray.size = ys.length := by simpa using b3.length
        simp only [eqN] at q
        rw [zip_range] at q
        obtain ⟨c, hc, e⟩ := Option.map_eq_some_iff.mp q
        obtain ⟨f, h1, h2⟩ := allO_map hc
        rw [← e, h2, ← s1, ← s2]
        refine fun E Q h => eq_tuplesT a2 b2 (fun j j1 j2 => ?_) hu h
        · have i1 : j < its.length := by simpa using j1
          have i2 : j < its'.length := by simpa using j2
          have r := eqN_tree tree_ok rfl n _ _ _ _ _ (a3.nth i1) (b3.nth i2) (h1 j (List.mem_range.mpr (by omega)))
          simpa using r
    | dct ks =>
      cases t' with
      | dctT => exact l2.elim
      | obj => exact l2.elim
      | lst => simp [eqN] at q
      | tup => simp [eqN] at q
      | dct ls =>
        have q0 := q
        obtain ⟨a, ka, rfl, a1, a2, a4, a3⟩ := l1
        obtain ⟨a', kb, rfl, b1, b2, b4, b3⟩ := l2
        obtain ⟨e, c1, c2⟩ := dct_parts a2 a4 a3 b4 b3 q
        rw [c2]
        refine fun E Q h => eq_dictsT (knd := mixKind P w) a1 b1 a2 b2 (fun k v y' hm hv => ?_) hu h
        obtain ⟨xx, yy, d1, d2, d3⟩ := c1 k v y' hm hv
        exact eqN_tree tree_ok rfl n _ _ _ _ _ d1 d2 d3
theorem ne_top {s : Shared} {A : Around} (n : Nat) (hu : A.units + (n + 1) < cLine) : ∀ (d e : D) (u y : Value) (b : Bool), LD P w s.heap d u → LD P w s.heap e y → eqN false (n + 1) d e = some b → ∀ (E : Value → Shared → Prop) (Q : Value → Shared → Prop), Q (.bool (!b)) s → wpAny (model P w) A (compareOp .NotEq u y) Q E s
  | .non, .non, u, y, b, l1, l2, q => by
    cases (show u = _ from l1)
    cases (show y = _ from l2)
    have hb : b = true := by simpa [eqN, leafEq] using q.symm
    rw [hb]
    exact fun E Q h => SeqAt.RcNeAt.none_none P w E Q h
  | .non, .bl z, u, y, b, l1, l2, q => by
    cases (show u = _ from l1)
    cases (show y = _ from l2)
    have hb : b = false := by simpa [eqN, leafEq] using q.symm
    rw [hb]
    exact fun E Q h => SeqAt.RcNeAt.none_bool _ P w E Q h
  | .non, .int z, u, y, b, l1, l2, q => by
    cases (show u = _ from l1)
    obtain ⟨t2, l2⟩ := l2
    cases l2
    have hb : b = false := by simpa [eqN, leafEq] using q.symm
    rw [hb]
    exact fun E Q h => SeqAt.RcNeAt.none_int _ _ P w E Q h
  | .non, .str z, u, y, b, l1, l2, q => by
    cases (show u = _ from l1)
    obtain ⟨t2, l2⟩ := l2
    cases l2
    have hb : b = false := by simpa [eqN, leafEq] using q.symm
    rw [hb]
    exact fun E Q h => SeqAt.RcNeAt.none_str _ _ P w E Q h
  | .bl x, .non, u, y, b, l1, l2, q => by
    cases (show u = _ from l1)
    cases (show y = _ from l2)
    have hb : b = false := by simpa [eqN, leafEq] using q.symm
    rw [hb]
    exact fun E Q h => SeqAt.RcNeAt.bool_none _ P w E Q h
  | .bl x, .bl z, u, y, b, l1, l2, q => by
    cases (show u = _ from l1)
    cases (show y = _ from l2)
    have hb : b = (x == z) := by simpa [eqN, leafEq] using q.symm
    rw [hb]
    exact fun E Q h => SeqAt.RcNeAt.bool_bool _ _ P w E Q h
  | .bl x, .int z, u, y, b, l1, l2, q => by
    cases (show u = _ from l1)
    obtain ⟨t2, l2⟩ := l2
    cases l2
    have hb : b = ((if x then 1 else 0) == z) := by simpa [eqN, leafEq] using q.symm
    rw [hb]
    exact fun E Q h => SeqAt.RcNeAt.bool_int _ _ _ P w E Q h
  | .bl x, .str z, u, y, b, l1, l2, q => by
    cases (show u = _ from l1)
    obtain ⟨t2, l2⟩ := l2
    cases l2
    have hb : b = false := by simpa [eqN, leafEq] using q.symm
    rw [hb]
    exact fun E Q h => SeqAt.RcNeAt.bool_str _ _ _ P w E Q h
  | .int x, .non, u, y, b, l1, l2, q => by
    obtain ⟨t1, l1⟩ := l1
    cases l1
    cases (show y = _ from l2)
    have hb : b = false := by simpa [eqN, leafEq] using q.symm
    rw [hb]
    exact fun E Q h => SeqAt.RcNeAt.int_none _ _ P w E Q h
  | .int x, .bl z, u, y, b, l1, l2, q => by
    obtain ⟨t1, l1⟩ := l1
    cases l1
    cases (show y = _ from l2)
    have hb : b = (x == (if z then 1 else 0)) := by simpa [eqN, leafEq] using q.symm
    rw [hb]
    exact fun E Q h => SeqAt.RcNeAt.int_bool _ _ _ P w E Q h
  | .int x, .int z, u, y, b, l1, l2, q => by
    obtain ⟨t1, l1⟩ := l1
    cases l1
    obtain ⟨t2, l2⟩ := l2
    cases l2
    have hb : b = (x == z) := by simpa [eqN, leafEq] using q.symm
    rw [hb]
    exact fun E Q h => SeqAt.RcNeAt.int_int _ _ _ _ P w E Q h
  | .int x, .str z, u, y, b, l1, l2, q => by
    obtain ⟨t1, l1⟩ := l1
    cases l1
    obtain ⟨t2, l2⟩ := l2
    cases l2
    have hb : b = false := by simpa [eqN, leafEq] using q.symm
    rw [hb]
    exact fun E Q h => SeqAt.RcNeAt.int_str _ _ _ _ P w E Q h
  | .str x, .non, u, y, b, l1, l2, q => by
    obtain ⟨t1, l1⟩ := l1
    cases l1
    cases (show y = _ from l2)
    have hb : b = false := by simpa [eqN, leafEq] using q.symm
    rw [hb]
    exact fun E Q h => SeqAt.RcNeAt.str_none _ _ P w E Q h
  | .str x, .bl z, u, y, b, l1, l2, q => by
    obtain ⟨t1, l1⟩ := l1
    cases l1
    cases (show y = _ from l2)
    have hb : b = false := by simpa [eqN, leafEq] using q.symm
    rw [hb]
    exact fun E Q h => SeqAt.RcNeAt.str_bool _ _ _ P w E Q h
  | .str x, .int z, u, y, b, l1, l2, q => by
    obtain ⟨t1, l1⟩ := l1
    cases l1
    obtain ⟨t2, l2⟩ := l2
    cases l2
    have hb : b = false := by simpa [eqN, leafEq] using q.symm
    rw [hb]
    exact fun E Q h => SeqAt.RcNeAt.str_int _ _ _ _ P w E Q h
  | .str x, .str z, u, y, b, l1, l2, q => by
    obtain ⟨t1, l1⟩ := l1
    cases l1
    obtain ⟨t2, l2⟩ := l2
    cases l2
    have hb : b = (x == z) := by simpa [eqN, leafEq] using q.symm
    rw [hb]
    exact fun E Q h => SeqAt.RcNeAt.str_str _ _ _ _ P w E Q h
  | .wld _, _, _, _, _, l1, _, _ => l1.elim
  | .non, .wld _, _, _, _, _, l2, _ => l2.elim
  | .bl _, .wld _, _, _, _, _, l2, _ => l2.elim
  | .int _, .wld _, _, _, _, _, l2, _ => l2.elim
  | .str _, .wld _, _, _, _, _, l2, _ => l2.elim
  | .node _ _, .wld _, _, _, _, _, l2, _ => l2.elim
  | .non, .node t xs, u, y, b, l1, l2, q => by
    cases (show u = _ from l1)
    cases t with
    | lst =>
      obtain ⟨a, its, rfl, a2, a3⟩ := l2
      have hb : b = false := (by simpa [eqN, isLeaf, seqTag] using q.symm)
      rw [hb]
      exact fun E Q h => SeqAt.RcNeAt.none_list  a2 (by omega) P w E Q h
    | tup =>
      obtain ⟨a, its, rfl, a2, a3⟩ := l2
      have hb : b = false := (by simpa [eqN, isLeaf, seqTag] using q.symm)
      rw [hb]
      exact fun E Q h => SeqAt.RcNeAt.none_tuple  a2 (by omega) P w E Q h
    | _ => simp [eqN, isLeaf, seqTag] at q
  | .node t xs, .non, u, y, b, l1, l2, q => by
    cases (show y = _ from l2)
    cases t with
    | lst =>
      obtain ⟨a, its, rfl, a2, a3⟩ := l1
      have hb : b = false := (by simpa [eqN, isLeaf, seqTag] using q.symm)
      rw [hb]
      exact fun E Q h => SeqAt.RcNeAt.list_none  a2 (by omega) P w E Q h
    | tup =>
      obtain ⟨a, its, rfl, a2, a3⟩ := l1
      have hb : b = false := (by simpa [eqN, isLeaf, seqTag] using q.symm)
      rw [hb]
      exact fun E Q h => SeqAt.RcNeAt.tuple_none  a2 (by omega) P w E Q h
    | _ => simp [eqN, isLeaf, seqTag] at q
  | .bl x, .node t xs, u, y, b, l1, l2, q => by
    cases (show u = _ from l1)
    cases t with
    | lst =>
      obtain ⟨a, its, rfl, a2, a3⟩ := l2
      have hb : b = false := (by simpa [eqN, isLeaf, seqTag] using q.symm)
      rw [hb]
      exact fun E Q h => SeqAt.RcNeAt.bool_list _ a2 (by omega) P w E Q h
    | tup =>
      obtain ⟨a, its, rfl, a2, a3⟩ := l2
      have hb : b = false := (by simpa [eqN, isLeaf, seqTag] using q.symm)
      rw [hb]
      exact fun E Q h => SeqAt.RcNeAt.bool_tuple _ a2 (by omega) P w E Q h
    | _ => simp [eqN, isLeaf, seqTag] at q
  | .node t xs, .bl z, u, y, b, l1, l2, q => by
    cases (show y = _ from l2)
    cases t with
    | lst =>
      obtain ⟨a, its, rfl, a2, a3⟩ := l1
      have hb : b = false := (by simpa [eqN, isLeaf, seqTag] using q.symm)
      rw [hb]
      exact fun E Q h => SeqAt.RcNeAt.list_bool _ a2 (by omega) P w E Q h
    | tup =>
      obtain ⟨a, its, rfl, a2, a3⟩ := l1
      have hb : b = false := (by simpa [eqN, isLeaf, seqTag] using q.symm)
      rw [hb]
      exact fun E Q h => SeqAt.RcNeAt.tuple_bool _ a2 (by omega) P w E Q h
    | _ => simp [eqN, isLeaf, seqTag] at q
  | .int x, .node t xs, u, y, b, l1, l2, q => by
    obtain ⟨t1, l1⟩ := l1
    cases l1
    cases t with
    | lst =>
      obtain ⟨a, its, rfl, a2, a3⟩ := l2
      have hb : b = false := (by simpa [eqN, isLeaf, seqTag] using q.symm)
      rw [hb]
      exact fun E Q h => SeqAt.RcNeAt.int_list _ _ a2 (by omega) P w E Q h
    | tup =>
      obtain ⟨a, its, rfl, a2, a3⟩ := l2
      have hb : b = false := (by simpa [eqN, isLeaf, seqTag] using q.symm)
      rw [hb]
      exact fun E Q h => SeqAt.RcNeAt.int_tuple _ _ a2 (by omega) P w E Q h
    | _ => simp [eqN, isLeaf, seqTag] at q
  | .node t xs, .int z, u, y, b, l1, l2, q => by
    obtain ⟨t2, l2⟩ := l2
    cases l2
    cases t with
    | lst =>
      obtain ⟨a, its, rfl, a2, a3⟩ := l1
      have hb : b = false := (by simpa [eqN, isLeaf, seqTag] using q.symm)
      rw [hb]
      exact fun E Q h => SeqAt.RcNeAt.list_int _ _ a2 (by omega) P w E Q h
    | tup =>
      obtain ⟨a, its, rfl, a2, a3⟩ := l1
      have hb : b = false := (by simpa [eqN, isLeaf, seqTag] using q.symm)
      rw [hb]
      exact fun E Q h => SeqAt.RcNeAt.tuple_int _ _ a2 (by omega) P w E Q h
    | _ => simp [eqN, isLeaf, seqTag] at q
  | .str x, .node t xs, u, y, b, l1, l2, q => by
    obtain ⟨t1, l1⟩ := l1
    cases l1
    cases t with
    | lst =>
      obtain ⟨a, its, rfl, a2, a3⟩ := l2
      have hb : b = false := (by simpa [eqN, isLeaf, seqTag] using q.symm)
      rw [hb]
      exact fun E Q h => SeqAt.RcNeAt.str_list _ _ a2 (by omega) P w E Q h
    | tup =>
      obtain ⟨a, its, rfl, a2, a3⟩ := l2
      have hb : b = false := (by simpa [eqN, isLeaf, seqTag] using q.symm)
      rw [hb]
      exact fun E Q h => SeqAt.RcNeAt.str_tuple _ _ a2 (by omega) P w E Q h
    | _ => simp [eqN, isLeaf, seqTag] at q
  | .node t xs, .str z, u, y, b, l1, l2, q => by
    obtain ⟨t2, l2⟩ := l2
    cases l2
    cases t with
    | lst =>
      obtain ⟨a, its, rfl, a2, a3⟩ := l1
      have hb : b = false := (by simpa [eqN, isLeaf, seqTag] using q.symm)
      rw [hb]
      exact fun E Q h => SeqAt.RcNeAt.list_str _ _ a2 (by omega) P w E Q h
    | tup =>
      obtain ⟨a, its, rfl, a2, a3⟩ := l1
      have hb : b = false := (by simpa [eqN, isLeaf, seqTag] using q.symm)
      rw [hb]
      exact fun E Q h => SeqAt.RcNeAt.tuple_str _ _ a2 (by omega) P w E Q h
    | _ => simp [eqN, isLeaf, seqTag] at q
  | .node t xs, .node t' ys, u, y, b, l1, l2, q => by
    cases t with
    | dctT => exact l1.elim
    | obj => exact l1.elim
    | lst =>
      obtain ⟨a, its, rfl, a2, a3⟩ := l1
      cases t' with
      | dctT => exact l2.elim
      | obj => exact l2.elim
      | dct => simp [eqN] at q
      | tup =>
        obtain ⟨a', its', rfl, b2, b3⟩ := l2
        have hb : b = false := by simpa [eqN] using q.symm
        rw [hb]
        exact fun E Q h => SeqAt.RcNeAt.list_tuple a2 b2 (by omega) P w E Q h
      | lst =>
        obtain ⟨a', its', rfl, b2, b3⟩ := l2
        have s1 : its.toArray.size = xs.length := by simpa using a3.length
        have s2 : its'.toArray.size = ys.length := by simpa using b3.length
        by_cases hl : xs.length = ys.length
        · simp only [eqN, hl, if_true] at q
          rw [zip_range] at q
          obtain ⟨f, h1, h2⟩ := allO_map q
          rw [h2, show min xs.length ys.length = its.toArray.size by omega]
          refine fun E Q h => SeqAt.RcNeAt.lists a2 b2 (by omega) (by omega) (fun j j1 j2 => ?_) P w E Q h
          have i1 : j < its.length := by simpa using j1
          have i2 : j < its'.length := by simpa using j2
          have r := eqN_tree at_ok rfl n _ _ _ _ _ (a3.nth i1) (b3.nth i2) (h1 j (List.mem_range.mpr (by omega))) A.in1 (by show A.units + 1 + n < cLine; omega)
          simpa using r
        · simp only [eqN, hl, if_false] at q
          have hb : b = false := by simpa using q.symm
          rw [hb]
          exact fun E Q h => SeqAt.RcNeAt.lists_lengths a2 b2 (by rw [s1, s2]; simpa using hl) (by omega) P w E Q h
    | tup =>
      obtain ⟨a, its, rfl, a2, a3⟩ := l1
      cases t' with
      | dctT => exact l2.elim
      | obj => exact l2.elim
      | dct => simp [eqN] at q
      | lst =>
        obtain ⟨a', its', rfl, b2, b3⟩ := l2
        have hb : b = false := by simpa [eqN] using q.symm
        rw [hb]
        exact fun E Q h => SeqAt.RcNeAt.tuple_list a2 b2 (by omega) P w E Q h
      | tup =>
        obtain ⟨a', its', rfl, b2, b3⟩ := l2
        have s1 : its.toArray.size = xs.length := by simpa using a3.length
        have s2 : its'.toArray.size = ys.length := by simpa using b3.length
        simp only [eqN] at q
        rw [zip_range] at q
        obtain ⟨c, hc, e⟩ := Option.map_eq_some_iff.mp q
        obtain ⟨f, h1, h2⟩ := allO_map hc
        rw [← e, h2, ← s1, ← s2]
        refine fun E Q h => SeqAt.RcNeAt.tuples a2 b2 (by omega) (fun j j1 j2 => ?_) P w E Q h
        · have i1 : j < its.length := by simpa using j1
          have i2 : j < its'.length := by simpa using j2
          have r := eqN_tree at_ok rfl n _ _ _ _ _ (a3.nth i1) (b3.nth i2) (h1 j (List.mem_range.mpr (by omega))) A.in1 (by show A.units + 1 + n < cLine; omega)
          simpa using r
    | dct ks =>
      cases t' with
      | dctT => exact l2.elim
      | obj => exact l2.elim
      | lst => simp [eqN] at q
      | tup => simp [eqN] at q
      | dct => simp [eqN] at q
end
section
variable {X : Cx} {L : Ly X.K} {W : WM} {H H' : Hp} {σ : L2.St} {s : Shared} {pins : List (Addr × Obj)}
theorem KV.unzip : ∀ {ks : List Key} {vs : List V} {kvs : List (Key × Value)}, ks.length = vs.length → KV (ks.zip vs) kvs → kvs.map (·.1) = ks ∧ Vals vs (kvs.map (·.2))
  | [], [], _, _, r => by cases r; exact ⟨rfl, .nil⟩
  | [], _ :: _, _, l, _ => by simp at l
  | _ :: _, [], _, l, _ => by simp at l
  | k :: ks, v :: vs, _, l, r => by
    cases r with
    | cons p t =>
      obtain ⟨p1, p2⟩ := p
      obtain ⟨h1, h2⟩ := KV.unzip (ks := ks) (vs := vs) (by simpa using l) t
      exact ⟨by simp [h1, ← p1], .cons p2 h2⟩
mutual
theorem rep_ld (I : Inv X pins σ H s) : ∀ {d : D} {v : V} {u : Value}, Rep L W H d v → RelV v u → okD d = true → LD X.prog X.w s.heap d u
  | .non, v, u, a, r, _ => by cases (show v = _ from a); exact r
  | .bl b, v, u, a, r, _ => by cases (show v = _ from a); exact r
  | .int i, v, u, a, r, _ => by cases (show v = _ from a); exact r
  | .str x, v, u, a, r, _ => by cases (show v = _ from a); exact r
  | .wld k, v, u, a, r, o => by simp [okD] at o
  | .node .lst xs, v, u, a, r, o => by
    obtain ⟨p, vs, rfl, h1, h2⟩ := a
    cases r
    have sq : SqL X.K H p vs := .inl (.inr h1)
    obtain ⟨its, r, pl, _⟩ := I.list sq
    exact ⟨p, its, rfl, pl.isList, repL_ld I h2 r (by simpa [okD] using o)⟩
  | .node .tup xs, v, u, a, r, o => by
    obtain ⟨p, vs, rfl, h1, h2⟩ := a
    cases r
    obtain ⟨its, r, pl, _⟩ := I.tuple h1
    exact ⟨p, its, rfl, pl, repL_ld I h2 r (by simpa [okD] using o)⟩
  | .node (.dct ks) xs, v, u, a, r, o => by
    obtain ⟨p, vs, rfl, ⟨l, od, h1⟩, h2⟩ := a
    cases r
    obtain ⟨z, n, kvs, kv, dd⟩ := dk_rd I.hok (.inr ⟨od, h1⟩)
    obtain ⟨e1, e2⟩ := KV.unzip l kv
    exact ⟨p, kvs, rfl, n, dd, e1, repL_ld I h2 e2 (by simpa [okD] using o)⟩
  | .node (.dctT _) _, v, u, a, r, o => by simp [okD] at o
  | .node (.obj _) _, v, u, a, r, o => by simp [okD] at o
theorem repL_ld (I : Inv X pins σ H s) : ∀ {ds : List D} {vs : List V} {us : List Value}, RepL L W H ds vs → Vals vs us → okL ds = true → LDL X.prog X.w s.heap ds us
  | [], vs, us, a, r, _ => by
    cases (show vs = _ from a)
    cases r
    exact rfl
  | d :: ds, vs, us, ⟨v, r0, e, h1, h2⟩, r, o => by
    subst e
    cases r with
    | cons r1 r2 =>
      have o' : okD d = true ∧ okL ds = true := by simpa [okL] using o
      exact ⟨_, _, rfl, rep_ld I h1 r1 o'.1, repL_ld I h2 r2 o'.2⟩
end
theorem repP_ld (I : Inv X pins σ H s) {d : D} {v : V} {u : Value} (h : RepP L W H d v) (r : RelV v u) (o : okD d = true) : LD X.prog X.w s.heap d u := by
  rcases h with h | ⟨t, ds, a, vs, rfl, rfl, h1, h2⟩
  · exact rep_ld I h r o
  · cases r
    cases t with
    | lst =>
      obtain ⟨its, r, pl, _⟩ := I.list (.inl (.inl h1))
      exact ⟨a, its, rfl, pl.isList, repL_ld I h2 r (by simpa [okD] using o)⟩
    | tup => exact h1.elim
    | dct ks =>
      obtain ⟨z, n, kvs, kv, dd⟩ := dk_rd I.hok (.inl h1.2)
      obtain ⟨e1, e2⟩ := KV.unzip h1.1 kv
      exact ⟨a, kvs, rfl, n, dd, e1, repL_ld I h2 e2 (by simpa [okD] using o)⟩
    | dctT ks => simp [okD] at o
    | obj c => simp [okD] at o
theorem okL_get {ds : List D} {d : D} (h : okL ds = true) (m : d ∈ ds) : okD d = true := by
  induction ds with
  | nil => cases m
  | cons x xs ih =>
    have h' : okD x = true ∧ okL xs = true := by simpa [okL] using h
    rcases List.mem_cons.mp m with z | z
    · rw [z]; exact h'.1
    · exact ih h'.2 z

/-! ### == and != -/
theorem op_eqO (hu : X.A.units + 64 < cLine) : OpR X (compareOp .Eq) (rD L eqO) := by
  intro pins s σ H x y v u Q I rx ry h
  obtain ⟨W, d, e, r, wk, g, h1, h2, q⟩ := h
  unfold eqO eqD at g
  split at g
  · rename_i o
    rw [Bool.and_eq_true] at o
    obtain ⟨b, g', e'⟩ := Option.map_eq_some_iff.mp g
    cases e'
    exact eq_top 59 (by omega) d e v u b (repP_ld I h1 rx o.1) (repP_ld I h2 ry o.2) g' _ _ ⟨.bl b, H, I, rfl, q H _ (fun _ _ z => z) rfl⟩
  · cases g
theorem op_neO (hu : X.A.units + 64 < cLine) : OpR X (compareOp .NotEq) (rD L neO) := by
  intro pins s σ H x y v u Q I rx ry h
  obtain ⟨W, d, e, r, wk, g, h1, h2, q⟩ := h
  unfold neO eqF at g
  split at g
  · rename_i o
    rw [Bool.and_eq_true] at o
    obtain ⟨b, g', e'⟩ := Option.map_eq_some_iff.mp g
    cases e'
    exact ne_top 59 (by omega) d e v u b (repP_ld I h1 rx o.1) (repP_ld I h2 ry o.2) g' _ _ ⟨.bl (!b), H, I, rfl, q H _ (fun _ _ z => z) rfl⟩
  · cases g
end
end DL

/-! D5: more operators: in, +, arithmetic, order, is, items. -/
namespace DL
open PySem PySem.Spec PyProof.Rows L2 PySem.W
section
variable {X : Cx} {L : Ly X.K} {W : WM} {H H' : Hp} {σ : L2.St} {s : Shared} {pins : List (Addr × Obj)}
theorem sameR {H : Hp} : Same H H := fun _ _ e => e
theorem sameN {p : Addr} {o : HO} (hp : H p = none) : Same H (upd H p o) := fun b u e => by rw [upd_ne (ne_of_none e hp)]; exact e
theorem sameT (x : Same H H') : Tr W H W H' := ⟨fun b o q _ => x b o q, fun _ _ q => q⟩
theorem RepP.lst {ds : List D} {v : V} (h : RepP L W H (.node .lst ds) v) : ∃ a vs, v = .ref a ∧ Rd H a (.lst vs) ∧ RepL L W H ds vs := by
  rcases h with ⟨a, vs, e, h1, h2⟩ | ⟨t, ds', a, vs, e, e2, h1, h2⟩
  · exact ⟨a, vs, e, .inr h1, h2⟩
  · cases e
    exact ⟨a, vs, e2, .inl h1, h2⟩
theorem RepP.tup {ds : List D} {v : V} (h : RepP L W H (.node .tup ds) v) : ∃ a vs, v = .ref a ∧ SqT X.K H a vs ∧ RepL L W H ds vs := by
  rcases h with ⟨a, vs, e, h1, h2⟩ | ⟨t, ds', a, vs, e, e2, h1, h2⟩
  · exact ⟨a, vs, e, h1, h2⟩
  · cases e
    exact h1.elim
theorem RepP.dct {ks : List Key} {ds : List D} {v : V} (h : RepP L W H (.node (.dct ks) ds) v) : ∃ a vs, v = .ref a ∧ ks.length = vs.length ∧ Rd H a (.dK (ks.zip vs)) ∧ RepL L W H ds vs := by
  rcases h with ⟨a, vs, e, h1, h2⟩ | ⟨t, ds', a, vs, e, e2, h1, h2⟩
  · exact ⟨a, vs, e, h1.1, .inr h1.2, h2⟩
  · cases e
    exact ⟨a, vs, e2, h1.1, .inl h1.2, h2⟩
theorem RepP.obj {c : Nat} {ds : List D} {v : V} (h : RepP L W H (.node (.obj c) ds) v) : ∃ a vs dx, v = .ref a ∧ vs.length ≤ (cf c).length ∧ Rd H a (.ins (L.CA c) dx ((cf c).zip vs)) ∧ RepL L W H ds vs := by
  rcases h with ⟨a, vs, e, ⟨l, o, dx, h1⟩, h2⟩ | ⟨t, ds', a, vs, e, e2, h1, h2⟩
  · exact ⟨a, vs, dx, e, Nat.le_of_eq l.symm, .inr ⟨o, h1⟩, h2⟩
  · cases e
    obtain ⟨l, dx, _, h1⟩ := h1
    exact ⟨a, vs, dx, e2, l, .inl h1, h2⟩
theorem RepP.int {i : Int} {v : V} (h : RepP L W H (.int i) v) : v = .int i := by
  rcases h with h | ⟨_, _, _, _, e, _⟩
  · exact h
  · cases e
theorem RepP.str {i : Str} {v : V} (h : RepP L W H (.str i) v) : v = .str i := by
  rcases h with h | ⟨_, _, _, _, e, _⟩
  · exact h
  · cases e
theorem RepP.bl {i : Bool} {v : V} (h : RepP L W H (.bl i) v) : v = .bl i := by
  rcases h with h | ⟨_, _, _, _, e, _⟩
  · exact h
  · cases e
theorem RepP.non {v : V} (h : RepP L W H .non v) : v = .non := by
  rcases h with h | ⟨_, _, _, _, e, _⟩
  · exact h
  · cases e

/-! ### what gives a rule a partial answer -/
theorem OpR.weak {f : Value → Value → Sem Value} {r r' : R2} (h : OpR X f r) (i : ∀ x y H Q, r' x y H Q → r x y H Q) : OpR X f r' := fun pins s σ H x y v u Q I rx ry q => h pins s σ H x y v u Q I rx ry (i _ _ _ _ q)
theorem CallR.weak {f : Value} {r r' : List V → Hp → VK → Prop} (h : CallR X f r) (i : ∀ x H Q, r' x H Q → r x H Q) : CallR X f r' := fun pins s σ H xs us Q I rx q => h pins s σ H xs us Q I rx (i _ _ _ q)
/-- an answer that is locked at once -/
def Frz (Q : VK) : VK := fun v H1 => Q v H1 ∨ ∃ a u, v = .ref a ∧ H1 a = some u ∧ Mut (some u) ∧ ∀ od, Q v (upd H1 a (.frz od u))
theorem EP.frz {Q : VK} {u : Value} {s' : Shared} (h : EP X pins σ (Frz Q) u s') : EP X pins σ Q u s' := by
  obtain ⟨v, H1, I1, r, q⟩ := h
  rcases q with q | ⟨a, o, rfl, ha, mu, q⟩
  · exact ⟨v, H1, I1, r, q⟩
  · obtain ⟨od, I2⟩ := I1.lock ha mu
    exact ⟨.ref a, _, I2, r, q od⟩
theorem OpR.frz {f : Value → Value → Sem Value} {r : R2} (h : OpR X f r) : OpR X f (fun x y H Q => r x y H (Frz Q)) := fun pins s σ H x y v u Q I rx ry q => thn (h pins s σ H x y v u (Frz Q) I rx ry q) fun _ _ z => EP.frz z
theorem CallR.frz {f : Value} {r : List V → Hp → VK → Prop} (h : CallR X f r) : CallR X f (fun xs H Q => r xs H (Frz Q)) := fun pins s σ H xs us Q I rx q => thn (h pins s σ H xs us (Frz Q) I rx q) fun _ _ z => EP.frz z
/-- a new list, locked -/
theorem frz_lst {Q : VK} {ds : List D} {vs : List V} {p : Addr} (hp : H p = none) (h : RepL L W H ds vs) (q : ∀ H' w, Same H H' → Rep L W H' (.node .lst ds) w → Q w H') : Frz Q (.ref p) (upd H p (.lst vs)) := by
  refine .inr ⟨p, _, rfl, upd_same, trivial, fun od => ?_⟩
  rw [upd_upd]
  have e : Same H (upd H p (.frz od (.lst vs))) := sameN hp
  exact q _ _ e ⟨p, vs, rfl, ⟨od, upd_same⟩, h.tr (sameT e)⟩
theorem frz_tup {Q : VK} {ds : List D} {vs : List V} {p : Addr} (hp : H p = none) (h : RepL L W H ds vs) (q : ∀ H' w, Same H H' → Rep L W H' (.node .tup ds) w → Q w H') : Q (.ref p) (upd H p (.tup vs)) := by
  have e : Same H (upd H p (.tup vs)) := sameN hp
  exact q _ _ e ⟨p, vs, rfl, .inl (.inl upd_same), h.tr (sameT e)⟩

/-! ### in, not in -/
theorem dKey_kV {d : D} {k : Key} {v : V} (e : dKey d = some k) (h : RepP L W H d v) : v = kV k := by
  cases d with
  | int i => cases e; exact h.int
  | str s => cases e; exact h.str
  | _ => cases e
theorem anyO_map {α : Type} {g : α → Option Bool} : ∀ {l : List α} {b : Bool}, anyO (l.map g) = some b → (∀ x ∈ l, g x = some ((g x).getD false)) ∧ b = l.any fun x => (g x).getD false
  | [], b, e => by cases e; exact ⟨fun x hx => by simp at hx, rfl⟩
  | x :: r, b, e => by
    cases q : g x with
    | none => simp [anyO, q] at e
    | some c =>
      cases q2 : anyO (r.map g) with
      | none => simp [anyO, q, q2] at e
      | some b' =>
        obtain ⟨h1, h2⟩ := anyO_map q2
        have eb : (c || b') = b := by simpa [anyO, q, q2] using e
        refine ⟨fun y hy => ?_, ?_⟩
        · rcases List.mem_cons.mp hy with z | z
          · rw [z, q]; rfl
          · exact h1 y z
        · rw [← eb, h2]
          simp [q]
open Classical in
/-- items of a list against one value -/
theorem in_items {A : Around} {x : D} {u : Value} {ds : List D} {its : List Value} {b : Bool} (hu : A.units + 61 < cLine) (l : LDL X.prog X.w s.heap ds its) (lx : LD X.prog X.w s.heap x u) (g : anyO (ds.map fun z => eqN false 60 z x) = some b) :
    ∃ e : Value → Bool, (∀ y, y ∈ its.toArray → SeqAt.EqAt A.in1 s y u (e y)) ∧ its.toArray.any e = b := by
  obtain ⟨h1, h2⟩ := anyO_map g
  let e : Value → Bool := fun y => if ∃ d, LD X.prog X.w s.heap d y ∧ eqN false 60 d x = some true then true else false
  have ee : ∀ d y, LD X.prog X.w s.heap d y → d ∈ ds → e y = (eqN false 60 d x).getD false := fun d y ly md => by
    have q := h1 d md
    by_cases c : eqN false 60 d x = some true
    · rw [c]
      exact if_pos ⟨d, ly, c⟩
    · have : (eqN false 60 d x).getD false = false := by
        cases z : (eqN false 60 d x).getD false with
        | false => rfl
        | true => rw [z] at q; exact absurd q c
      rw [this]
      refine if_neg fun ⟨d', l', c'⟩ => ?_
      rw [LD.inj l' ly] at c'
      exact c c'
  refine ⟨e, fun y hy => ?_, ?_⟩
  · obtain ⟨j, hj, ej⟩ := List.getElem_of_mem (show y ∈ its by simpa using hy)
    have hd := l.nth hj
    have hm : ds.getD j default ∈ ds := by
      have hj' : j < ds.length := by rw [← l.length]; exact hj
      simp [List.getD, hj']
    rw [ej] at hd
    rw [ee _ _ hd hm]
    exact eqN_tree at_ok rfl 60 _ _ _ _ _ hd lx (h1 _ hm) A.in1 (by show A.units + 1 + 60 < cLine; omega)
  · rw [h2]
    have hl := l.length
    have : its.any e = ds.any fun z => (eqN false 60 z x).getD false := by
      rw [Bool.eq_iff_iff, List.any_eq_true, List.any_eq_true]
      constructor
      · rintro ⟨y, hy, q⟩
        obtain ⟨j, hj, ej⟩ := List.getElem_of_mem hy
        have hd := l.nth hj
        have hm : ds.getD j default ∈ ds := by
          have hj' : j < ds.length := by omega
          simp [List.getD, hj']
        rw [ej] at hd
        exact ⟨_, hm, by rw [← ee _ _ hd hm]; exact q⟩
      · rintro ⟨d, hd, q⟩
        obtain ⟨j, hj, ej⟩ := List.getElem_of_mem hd
        have hj' : j < its.length := by omega
        have ld := l.nth hj'
        have e0 : ds.getD j default = d := by simp [List.getD, hj, ej]
        rw [e0] at ld
        exact ⟨its[j], List.getElem_mem hj', by rw [ee _ _ ld hd]; exact q⟩
    simpa using this
theorem valV_lk {ds : List D} {vs : List V} {ks : List Key} (l : ks.length = vs.length) (h : RepL L W H ds vs) (k : Key) :
    (lk ks ds k = none ∧ valV (ks.zip vs) k = none) ∨ ∃ d v, lk ks ds k = some d ∧ valV (ks.zip vs) k = some v ∧ Rep L W H d v := by
  induction ks generalizing ds vs with
  | nil => exact .inl ⟨by simp [lk], by simp [valV]⟩
  | cons k' ks ih =>
    cases vs with
    | nil => simp at l
    | cons v vs =>
      cases ds with
      | nil => cases (show v :: vs = [] from h)
      | cons d ds =>
        obtain ⟨_, _, e, h1, h2⟩ := h
        cases e
        by_cases q : k' = k
        · exact .inr ⟨d, v, by simp [lk, q], valV_pos q, h1⟩
        · have e2 : valV ((k', v) :: ks.zip vs) k = valV (ks.zip vs) k := valV_neg q
          rw [List.zip_cons_cons, e2]
          simp only [lk, if_neg q]
          exact ih (by simpa using l) h2
theorem dget_lk {ks : List Key} {ds : List D} {vs : List V} {a : Addr} (l : ks.length = vs.length) (r : Rd H a (.dK (ks.zip vs))) (k : Key) : DGet H a (kV k) (valV (ks.zip vs) k) := .inl ⟨_, k, r, rfl, rfl⟩
theorem in_ok (hu : X.A.units + 64 < cLine) {x y : D} {b : Bool} {v u : V} {vv vu : Value} (I : Inv X pins σ H s) (h1 : RepP L W H x v) (h2 : RepP L W H y u) (rx : RelV v vv) (ry : RelV u vu) (g : inB x y = some b) :
    (∀ (E : Value → Shared → Prop) (Q : VK), Q (.bl b) H → wpAny (model X.prog X.w) X.A (compareOp .In vv vu) (EP X pins σ Q) E s) ∧ (∀ (E : Value → Shared → Prop) (Q : VK), Q (.bl (!b)) H → wpAny (model X.prog X.w) X.A (compareOp .NotIn vv vu) (EP X pins σ Q) E s) := by
  cases y with
  | node t ds =>
    cases t with
    | lst =>
      unfold inB at g
      dsimp only at g
      split at g
      · rename_i o
        rw [Bool.and_eq_true] at o
        obtain ⟨a, its, e, hl, ll⟩ : LD X.prog X.w s.heap (.node .lst ds) vu := repP_ld I h2 ry (by simpa [okD] using o.2)
        subst e
        obtain ⟨e, e1, e2⟩ := in_items (A := X.A) (by omega) ll (repP_ld I h1 rx o.1) g
        exact ⟨fun E Q q => SeqAt.in_listAt e hl e1 ⟨.bl _, H, I, rfl, by rw [e2]; exact q⟩, fun E Q q => SeqAt.notIn_listAt e hl e1 ⟨.bl _, H, I, rfl, by rw [e2]; exact q⟩⟩
      · cases g
    | tup =>
      unfold inB at g
      dsimp only at g
      split at g
      · rename_i o
        rw [Bool.and_eq_true] at o
        obtain ⟨a, its, e, hl, ll⟩ : LD X.prog X.w s.heap (.node .tup ds) vu := repP_ld I h2 ry (by simpa [okD] using o.2)
        subst e
        obtain ⟨e, e1, e2⟩ := in_items (A := X.A) (by omega) ll (repP_ld I h1 rx o.1) g
        exact ⟨fun E Q q => SeqAt.in_tupleAt e hl e1 ⟨.bl _, H, I, rfl, by rw [e2]; exact q⟩, fun E Q q => SeqAt.notIn_tupleAt e hl e1 ⟨.bl _, H, I, rfl, by rw [e2]; exact q⟩⟩
      · cases g
    | dct ks =>
      unfold inB at g
      dsimp only at g
      obtain ⟨k, ek, g'⟩ := Option.map_eq_some_iff.mp g
      obtain ⟨a, vs, rfl, l, r, rl⟩ := h2.dct
      cases ry
      cases dKey_kV ek h1
      have eb : (valV (ks.zip vs) k).isSome = b := by
        rcases valV_lk l rl k with ⟨z1, z2⟩ | ⟨d, w, z1, z2, _⟩
        · rw [z2, ← g', z1]
          rfl
        · rw [z2, ← g', z1]
          rfl
      exact ⟨fun E Q q => d_in (by omega) I (dget_lk (ds := ds) l r k) rx fun s' I' => ⟨.bl _, H, I', rfl, by rw [eb]; exact q⟩, fun E Q q => d_notIn (by omega) I (dget_lk (ds := ds) l r k) rx fun s' I' => ⟨.bl _, H, I', rfl, by rw [eb]; exact q⟩⟩
    | _ => cases g
  | str z =>
    unfold inB at g
    dsimp only at g
    obtain ⟨c, ec, g'⟩ := Option.map_eq_some_iff.mp g
    cases x with
    | str z' =>
      have e : z' = ⟨#[c]⟩ := by
        unfold oneSign at ec
        dsimp only at ec
        split at ec
        · rename_i c' q
          cases ec
          obtain ⟨arr⟩ := z'
          congr 1
          apply Array.toList_inj.mp
          exact q
        · cases ec
      subst e
      cases h1.str
      cases h2.str
      rw [← g']
      have W1 := op_in_sign (X := X) pins s σ H
      have W2 := op_notIn_sign (X := X) pins s σ H
      obtain ⟨t, rfl⟩ := rx
      obtain ⟨t', rfl⟩ := ry
      exact ⟨fun E Q q => PyProof.Rows.in_str (fin_bl I q (PySem.StrLaws.found_one z c).symm), fun E Q q => PyProof.Rows.notIn_str (fin_bl I q (by rw [PySem.StrLaws.found_one]))⟩
    | _ => cases ec
  | _ => cases g
theorem op_inO (hu : X.A.units + 64 < cLine) : OpR X (compareOp .In) (rD L inO) := by
  intro pins s σ H x y v u Q I rx ry h
  obtain ⟨W, d, e, r, wk, g, h1, h2, q⟩ := h
  obtain ⟨b, g', e'⟩ := Option.map_eq_some_iff.mp g
  cases e'
  exact (in_ok hu I h1 h2 rx ry g').1 _ _ (q H _ sameR rfl)
theorem op_notInO (hu : X.A.units + 64 < cLine) : OpR X (compareOp .NotIn) (rD L notInO) := by
  intro pins s σ H x y v u Q I rx ry h
  obtain ⟨W, d, e, r, wk, g, h1, h2, q⟩ := h
  obtain ⟨b, g', e'⟩ := Option.map_eq_some_iff.mp g
  cases e'
  exact (in_ok hu I h1 h2 rx ry g').2 _ _ (q H _ sameR rfl)
end
end DL

/-! D6: +, arithmetic, order, is, items, slices. -/
namespace DL
open PySem PySem.Spec PyProof.Rows L2 PySem.W
section
variable {X : Cx} {L : Ly X.K} {W : WM} {H H' : Hp} {σ : L2.St} {s : Shared} {pins : List (Addr × Obj)}
theorem rd_lst (I : Inv X pins σ H s) {a : Addr} {vs : List V} (h : Rd H a (.lst vs)) : vs.length ≤ sizeLine ∧ ∃ its n, Vals vs its ∧ s.heap.get? a = some { cls := .type "list", data := .seq (List.toArray its) n } := by
  obtain ⟨z, its, n, r, e⟩ := h.ok I.hok
  exact ⟨z, its, n, r, e⟩
theorem sz_eq : sizeLine = sz := sizeLine_eq
theorem op_catR : OpR X (binaryOp .Add) (fun x y H Q => ∃ a b vs us, x = .ref a ∧ y = .ref b ∧ Rd H a (.lst vs) ∧ Rd H b (.lst us) ∧ vs.length + us.length ≤ sizeLine ∧ ∀ p, H p = none → Q (.ref p) (upd H p (.lst (vs ++ us)))) := by
  intro pins s σ H x y v u Q I rx ry h
  obtain ⟨a, b, vs, us, rfl, rfl, ha, hb, hz, q⟩ := h
  cases rx
  cases ry
  obtain ⟨z, its, n, r, ea⟩ := rd_lst I ha
  obtain ⟨z2, its2, n2, r2, eb⟩ := rd_lst I hb
  have l1 := r.length
  have l2 := r2.length
  refine PySem.P.add_list ea eb ?_ (by rw [List.size_toArray, List.size_toArray]; omega)
  rw [show its.toArray ++ its2.toArray = (its ++ its2).toArray by simp]
  exact ⟨.ref s.heap.objs.size, _, I.lnew (t' := s.toks) (r.append r2) (by rw [List.length_append]; exact hz), rfl, q _ I.fresh⟩
theorem op_addO : OpR X (binaryOp .Add) (rD L addO) := by
  intro pins s σ H x y v u Q I rx ry h
  obtain ⟨W, d, e, r, wk, g, h1, h2, q⟩ := h
  unfold addO at g
  split at g
  · cases g
    exact op_add pins s σ H x y v u Q I rx ry ⟨_, _, h1.int, h2.int, q H _ sameR rfl⟩
  · split at g
    · rename_i hl
      cases g
      exact op_add_str pins s σ H x y v u Q I rx ry ⟨_, _, h1.str, h2.str, by rw [sz_eq]; exact hl, q H _ sameR rfl⟩
    · cases g
  · split at g
    · rename_i hl
      cases g
      obtain ⟨a, vs, rfl, ha, ra⟩ := h1.lst
      obtain ⟨b, us, rfl, hb, rb⟩ := h2.lst
      exact OpR.frz op_catR pins s σ H _ _ v u Q I rx ry ⟨a, b, vs, us, rfl, rfl, ha, hb, by rw [sz_eq, ra.length, rb.length]; exact hl, fun p hp => frz_lst hp (ra.append rb) q⟩
    · cases g
  · rename_i xs ys
    split at g
    · rename_i hl
      cases g
      obtain ⟨a, vs, rfl, ha, ra⟩ := h1.tup
      obtain ⟨b, us, rfl, hb, rb⟩ := h2.tup
      refine op_catT pins s σ H _ _ v u Q I rx ry ⟨a, b, vs, us, rfl, rfl, ha, hb, fun e => ?_, by rw [sz_eq, ra.length, rb.length]; exact hl.1, fun e => ?_, fun _ p hp => frz_tup hp (ra.append rb) q⟩
      · have l := ra.length
        rw [e] at l
        cases xs with
        | nil => cases hl.2
        | cons _ _ => cases l
      · have l := rb.length
        rw [e] at l
        cases ys with
        | nil =>
          rw [List.append_nil] at q
          exact q H _ sameR ⟨a, vs, rfl, ha, ra⟩
        | cons _ _ => cases l
    · cases g
  · cases g

/-! ### numbers -/
theorem op_intO {op : Operator} {C : Int → Int → Prop} {g : Int → Int → Int} {f : Int → Int → Option Int} (ho : OpR X (binaryOp op) (rI C fun i j => .int (g i j))) (hf : ∀ i j k, f i j = some k → C i j ∧ k = g i j) : OpR X (binaryOp op) (rD L (intO f)) := by
  intro pins s σ H x y v u Q I rx ry h
  obtain ⟨W, d, e, r, wk, g', h1, h2, q⟩ := h
  unfold intO at g'
  split at g'
  · obtain ⟨k, e1, e2⟩ := Option.map_eq_some_iff.mp g'
    cases e2
    obtain ⟨c, rfl⟩ := hf _ _ _ e1
    exact ho pins s σ H x y v u Q I rx ry ⟨_, _, h1.int, h2.int, c, q H _ sameR rfl⟩
  · cases g'
theorem rI_of {f : Value → Value → Sem Value} {g : Int → Int → V} (h : OpR X f (rI0 g)) : OpR X f (rI (fun _ _ => True) g) := OpR.weak h fun x y H Q ⟨i, j, a, b, _, q⟩ => ⟨i, j, a, b, q⟩
theorem op_subO : OpR X (binaryOp .Sub) (rD L subO) := op_intO (rI_of op_sub) fun i j k e => ⟨trivial, by cases e; rfl⟩
theorem op_mulO : OpR X (binaryOp .Mult) (rD L mulO) := op_intO op_mul fun i j k e => by
  unfold mulI at e
  split at e
  · rename_i h
    cases e
    exact ⟨h, rfl⟩
  · cases e
theorem op_modO : OpR X (binaryOp .Mod) (rD L (intO fun i j => if 0 < j then some (i % j) else none)) := op_intO op_mod fun i j k e => by
  split at e
  · rename_i h
    cases e
    exact ⟨h, rfl⟩
  · cases e
theorem op_fdivO : OpR X (binaryOp .FloorDiv) (rD L (intO fun i j => if 0 < j ∧ j < 1073741824 then some (i / j) else none)) := op_intO op_fdiv fun i j k e => by
  split at e
  · rename_i h
    cases e
    exact ⟨h, rfl⟩
  · cases e
theorem op_powO : OpR X (binaryOp .Pow) (rD L (intO fun i j => if 0 ≤ j ∧ j ≤ 1000000 ∧ i.natAbs < 2 ^ 64 then some (i ^ j.toNat) else none)) := op_intO op_pow fun i j k e => by
  split at e
  · rename_i h
    cases e
    exact ⟨h, rfl⟩
  · cases e
theorem op_ordO {op : CmpOp} {p : Int → Int → Bool} (ho : OpR X (compareOp op) (rI0 fun i j => .bl (p i j))) : OpR X (compareOp op) (rD L (ordO p)) := by
  intro pins s σ H x y v u Q I rx ry h
  obtain ⟨W, d, e, r, wk, g', h1, h2, q⟩ := h
  unfold ordO at g'
  split at g'
  · cases g'
    exact ho pins s σ H x y v u Q I rx ry ⟨_, _, h1.int, h2.int, q H _ sameR rfl⟩
  · cases g'
theorem op_ltO : OpR X (compareOp .Lt) (rD L ltO) := op_ordO op_lt
theorem op_leO : OpR X (compareOp .LtE) (rD L leO) := op_ordO op_le
theorem op_gtO : OpR X (compareOp .Gt) (rD L gtO) := op_ordO op_gt
theorem op_geO : OpR X (compareOp .GtE) (rD L geO) := op_ordO op_ge

/-! ### is: None, True, False -/
theorem RepP.isN {d : D} {v : V} (h : RepP L W H d v) : decide (v = .non) = isNonD d := by
  cases d with
  | non => rw [h.non]; rfl
  | bl => rw [h.bl]; rfl
  | int => rw [h.int]; rfl
  | str => rw [h.str]; rfl
  | wld k =>
    rcases h with ⟨a, rfl, _⟩ | ⟨_, _, _, _, e, _⟩
    · rfl
    · cases e
  | node t ds =>
    rcases h with ⟨a, vs, rfl, _⟩ | ⟨t', ds', a, vs, e, rfl, _⟩
    · rfl
    · rfl
theorem op_isO : OpR X (compareOp .Is) (rD L isO) := by
  intro pins s σ H x y v u Q I rx ry h
  obtain ⟨W, d, e, r, wk, g, h1, h2, q⟩ := h
  obtain ⟨b, g', e'⟩ := Option.map_eq_some_iff.mp g
  cases e'
  unfold isB at g'
  split at g'
  · cases g'
    exact op_isN pins s σ H x y v u Q I rx ry ⟨h2.non, by rw [h1.isN]; exact q H _ sameR rfl⟩
  · cases g'
    exact op_isBl pins s σ H x y v u Q I rx ry ⟨_, _, h1.bl, h2.bl, q H _ sameR rfl⟩
  · cases g'
theorem op_isNotO : OpR X (compareOp .IsNot) (rD L isNotO) := by
  intro pins s σ H x y v u Q I rx ry h
  obtain ⟨W, d, e, r, wk, g, h1, h2, q⟩ := h
  obtain ⟨b, g', e'⟩ := Option.map_eq_some_iff.mp g
  cases e'
  unfold isB at g'
  split at g'
  · cases g'
    exact op_notN pins s σ H x y v u Q I rx ry ⟨h2.non, by rw [h1.isN]; exact q H _ sameR rfl⟩
  · cases g'
    exact op_notBl pins s σ H x y v u Q I rx ry ⟨_, _, h1.bl, h2.bl, q H _ sameR rfl⟩
  · cases g'

/-! ### items -/
theorem atI_rep {ds : List D} {vs : List V} {i : Int} {d : D} (h : RepL L W H ds vs) (e : atI ds i = some d) : ∃ v, atI vs i = some v ∧ Rep L W H d v := by
  unfold atI at e ⊢
  rw [h.length]
  obtain ⟨j, h1, h2⟩ := Option.bind_eq_some_iff.mp e
  obtain ⟨v, h3, h4⟩ := h.get h2
  exact ⟨v, by rw [h1]; exact h3, h4⟩
theorem ix_dct (hu : X.A.units + 1 < cLine) : IxR X (fun x y H Q => ∃ a v, x = .ref a ∧ DGet H a y (some v) ∧ Q v H) := by
  intro value slice pins s σ H x y v u Q I rx ry h hs
  obtain ⟨a, w, rfl, g, q⟩ := h
  cases rx
  exact tail_any (dict_typeIs I g) PySem.F.slot_dict_getitem.lookup (d_getItem hu I g ry fun w' s3 I3 rw' => ⟨w, H, I3, rw', q⟩) hs
theorem ix_O (hu : X.A.units + 64 < cLine) : IxR X (rD L ixO) := by
  intro value slice pins s σ H x y v u Q I rx ry h hs
  obtain ⟨W, d, e, r, wk, g, h1, h2, q⟩ := h
  unfold ixO at g
  split at g
  · obtain ⟨a, vs, rfl, ha, ra⟩ := h1.lst
    obtain ⟨w, e1, e2⟩ := atI_rep ra g
    exact ix_list value slice pins s σ H _ y v u Q I rx ry ⟨a, vs, _, w, rfl, h2.int, .inl ha, e1, q H w sameR e2⟩ hs
  · obtain ⟨a, vs, rfl, ha, ra⟩ := h1.tup
    obtain ⟨w, e1, e2⟩ := atI_rep ra g
    exact ix_tup value slice pins s σ H _ y v u Q I rx ry ⟨a, vs, _, w, rfl, h2.int, ha, e1, q H w sameR e2⟩ hs
  · split at g
    · rename_i hl
      obtain ⟨c, e1, e2⟩ := Option.map_eq_some_iff.mp g
      cases e2
      exact ix_str value slice pins s σ H _ y v u Q I rx ry ⟨_, _, c, h1.str, h2.int, by rw [sz_eq]; exact hl, e1, q H _ sameR rfl⟩ hs
    · cases g
  · rename_i ks ds y'
    obtain ⟨k, ek, el⟩ := Option.bind_eq_some_iff.mp g
    obtain ⟨a, vs, rfl, l, ha, ra⟩ := h1.dct
    cases dKey_kV ek h2
    rcases valV_lk l ra k with ⟨z1, z2⟩ | ⟨d', w, z1, z2, z3⟩
    · rw [z1] at el; cases el
    · rw [z1] at el
      cases el
      exact ix_dct (by omega) value slice pins s σ H _ _ v u Q I rx ry ⟨a, w, rfl, by rw [← z2]; exact dget_lk (ds := []) l ha k, q H w sameR z3⟩ hs
  · cases g
theorem d_ix {a b : Expr} {pos : Pos} {Wx : WX} {ma mb : EM D} (hu : X.A.units + 64 < cLine) (ha : PE X a (tE L Wx ma)) (hb : PE X b (tP L Wx mb)) (hs : PlainIx b := by intro _ _; rfl) : PE X (.Subscript a b pos) (tE L Wx (eBin ixO ma mb)) :=
  PE.weak (pe_ix (ix_O hu) ha hb hs) fun _ _ _ q => tOp_D q
theorem d_ixQ {a b : Expr} {pos : Pos} {Wx : WX} {ma : EM D} {mb : Rho → Option D} (hu : X.A.units + 64 < cLine) (ha : PE X a (tP L Wx ma)) (hb : PE X b (tQ L mb)) (hs : PlainIx b := by intro _ _; rfl) : PE X (.Subscript a b pos) (tE L Wx (eBinQ ixO ma mb)) :=
  PE.weak (pe_ix (ix_O hu) ha hb hs) fun _ _ _ q => tOp_Q q
end
end DL

/-! D7: argument lists, calls of defs, the promise of a def by its mirror. -/
namespace DL
open PySem PySem.Spec PyProof.Rows L2 PySem.W

def spD {K : PySem.W.Frag} (L : Ly K) (n : Nat) (m : FM) : Sp := fun vs H Q E => vs.length = n ∧ ∃ W ds, WOk L W H ∧ RepL L W H ds vs ∧ (m ds).wp fun r => match r with
  | .ok d => ∀ W' H' v, CTr L W H W' H' → Rep L W' H' d v → Q v H'
  | .error e => ∀ W' H' c dd, CTr L W H W' H' → ERep L W' H' e c dd → E c dd H'
section
variable {X : Cx} {L : Ly X.K} {Wx : WX} {B : Addr → Prop} {W W1 W' : WM} {H H1 H' : Hp} {σ : L2.St} {ρ : Rho}
/-! ### argument lists -/
theorem RepL.nil' : RepL L W H [] [] := rfl
theorem a_nil : PA X [] (tAs L Wx eNil) := PA.weak pa_nil fun σ H Q q => by
  obtain ⟨B, W, ρ, R, q⟩ := q
  exact wp_retE R q [] rfl
theorem a_cons {e : Expr} {es : List Expr} {ma : EM D} {mr : EM (List D)} (ha : PE X e (tE L Wx ma)) (hr : PA X es (tAs L Wx mr)) (hs : starEach (e :: es) X.env = (false, eval e X.env) :: starEach es X.env := by rfl) : PA X (e :: es) (tAs L Wx (eCons ma mr)) :=
  PA.weak (pa_cons ha hr hs) fun σ H Q q => by
    obtain ⟨B, W, ρ, R, q⟩ := q
    refine ⟨B, W, ρ, R, M.wp_mono (fun r p => p.imp fun x ρ1 W1 H1 S1 R1 z v hv => ?_) (wp_seqE q)⟩
    refine ⟨B, W1, ρ1, R1, M.wp_mono (fun r p => p.imp fun xs ρ2 W2 H2 S2 R2 z2 vs hvs => ?_) (wp_seqE z)⟩
    exact wp_retE R2 z2 (v :: vs) ⟨v, vs, rfl, hv.tr S2.tr, hvs⟩
/-- keywords' values -/
theorem k_nil : PK X [] (tAs L Wx eNil) := ⟨fun pos pins s σ H Q I q => pk_nil.run pos pins s σ H Q I (by
    obtain ⟨B, W, ρ, R, q⟩ := q
    exact wp_retE R q [] rfl)⟩
theorem k_cons {e : Expr} {nm : Option Str} {kpos : Pos} {kws : List Keyword} {ma : EM D} {mr : EM (List D)} (ha : PE X e (tE L Wx ma)) (hr : PK X kws (tAs L Wx mr)) : PK X (⟨nm, e, kpos⟩ :: kws) (tAs L Wx (eCons ma mr)) :=
  ⟨fun pos pins s σ H Q I q => (pk_cons ha hr).run pos pins s σ H Q I (by
    obtain ⟨B, W, ρ, R, q⟩ := q
    refine ⟨B, W, ρ, R, M.wp_mono (fun r p => p.imp fun x ρ1 W1 H1 S1 R1 z v hv => ?_) (wp_seqE q)⟩
    refine ⟨B, W1, ρ1, R1, M.wp_mono (fun r p => p.imp fun xs ρ2 W2 H2 S2 R2 z2 vs hvs => ?_) (wp_seqE z)⟩
    exact wp_retE R2 z2 (v :: vs) ⟨v, vs, rfl, hv.tr S2.tr, hvs⟩)⟩

/-! ### what a call's written arguments come to -/
abbrev TC := L2.St → Hp → (List V → List V → Hp → Prop) → Prop
structure PCl (X : Cx) (pos : Pos) (args : List Expr) (kws : List Keyword) (ks : List Str) (t : TC) : Prop where
  run : ∀ (f : Value) (first : List Value) (pins : List (Addr × Obj)) (s : Shared) (σ : L2.St) (H : Hp) (R : List V → List V → Hp → Prop) (Q : Value → Shared → Prop), keepIn X.K f = true → L2.Inv X pins σ H s → t σ H R →
    (∀ us ws vs zs s' H', L2.Inv X pins σ H' s' → Vals vs us → Vals zs ws → R vs zs H' → wpAny (model X.prog X.w) X.A (call f (first ++ us) (ks.zip ws)) Q X.xe s') →
    wpAny (model X.prog X.w) X.A (callWith pos f first (backTo pos (starEach args X.env)) (backToKw pos (keywordEach kws X.env))) Q X.xe s
def tCl {K : PySem.W.Frag} (L : Ly K) (Wx : WX) (m : EM (List D × List D)) : TC := fun σ H R => ∃ B W ρ, Rel L B W H σ ρ ∧ (m ρ).wp (PostE L B Wx W H σ fun p _ W' H' => ∀ vs zs, RepL L W' H' p.1 vs → RepL L W' H' p.2 zs → R vs zs H')
theorem cl_00 {pos : Pos} : PCl X pos [] [] [] (tCl L Wx fun ρ => retE ([], []) ρ) := ⟨fun f first pins s σ H R Q hk I q h => by
  obtain ⟨B, W, ρ, R', q⟩ := q
  have z := wp_retE R' q [] [] rfl rfl
  exact callWith_K0 I.kIn hk (h [] [] [] [] s H I .nil .nil z)⟩
theorem cl_a {pos : Pos} {e : Expr} {es : List Expr} {m : EM (List D)} (ha : PA X (e :: es) (tAs L Wx m)) (he : starEach (e :: es) X.env = (false, eval e X.env) :: starEach es X.env := by rfl) (hpl : (backTo pos (starEach es X.env)).any (·.1) = false := by rfl) :
    PCl X pos (e :: es) [] [] (tCl L Wx (eCl1 m)) := ⟨fun f first pins s σ H R Q hk I q h => by
  refine callWith_K (h₀ := X.base) I.ok.mod.kin hk (thn (ha.run pos pins s σ H (fun vs H' => R vs [] H') I ?_) fun us s1 ⟨vs, H1, I1, r, q⟩ => ⟨I1.kIn, h us [] vs [] s1 H1 I1 r .nil q⟩) he hpl
  obtain ⟨B, W, ρ, R', q⟩ := q
  exact ⟨B, W, ρ, R', M.wp_mono (fun r p => p.imp fun xs ρ1 W1 H1 S1 R1 z vs hvs => wp_retE R1 z vs [] hvs rfl) (wp_seqE q)⟩⟩
theorem cl_ak {pos : Pos} {e : Expr} {es : List Expr} {kws : List Keyword} {ks : List Str} {m mk : EM (List D)} (ha : PA X (e :: es) (tAs L Wx m)) (hkw : PK X kws (tAs L Wx mk)) (hall : (backToKw pos (keywordEach kws X.env)).all (·.1.isSome) = true := by rfl)
    (hks : (backToKw pos (keywordEach kws X.env)).filterMap (·.1) = ks := by rfl) (he : starEach (e :: es) X.env = (false, eval e X.env) :: starEach es X.env := by rfl)
    (hpl : ((backTo pos (starEach (e :: es) X.env)).any (·.1) || (backToKw pos (keywordEach kws X.env)).any (·.1.isNone)) = false := by rfl) :
    PCl X pos (e :: es) kws ks (tCl L Wx (eCl m mk)) := ⟨fun f first pins s σ H R Q hk I q h => by
  refine callWith_KW (h₀ := X.base) I.ok.mod.kin hk hall (thn (ha.run pos pins s σ H (fun vs H' => tAs L Wx mk σ H' fun zs H2 => R vs zs H2) I ?_) fun us s1 ⟨vs, H1, I1, r, q⟩ => ?_) hpl he
  · obtain ⟨B, W, ρ, R', q⟩ := q
    refine ⟨B, W, ρ, R', M.wp_mono (fun r p => p.imp fun xs ρ1 W1 H1 S1 R1 z vs hvs => ?_) (wp_seqE q)⟩
    exact ⟨B, W1, ρ1, R1, M.wp_mono (fun r p => p.imp fun ys ρ2 W2 H2 S2 R2 z2 zs hzs => wp_retE R2 z2 vs zs (hvs.tr S2.tr) hzs) (wp_seqE z)⟩
  · refine thn (hkw.run pos pins s1 σ H1 _ I1 q) fun ws s2 ⟨zs, H2, I2, rz, q2⟩ => ⟨I2.kIn, ?_⟩
    rw [hks]
    exact h us ws vs zs s2 H2 I2 r rz q2⟩
theorem cl_k {pos : Pos} {kws : List Keyword} {ks : List Str} {mk : EM (List D)} (hkw : PK X kws (tAs L Wx mk)) (hall : (backToKw pos (keywordEach kws X.env)).all (·.1.isSome) = true := by rfl)
    (hks : (backToKw pos (keywordEach kws X.env)).filterMap (·.1) = ks := by rfl) (hpl : ((backTo pos (starEach [] X.env)).any (·.1) || (backToKw pos (keywordEach kws X.env)).any (·.1.isNone)) = false := by rfl) :
    PCl X pos [] kws ks (tCl L Wx fun ρ => bindE (mk ρ) fun ys ρ2 => retE ([], ys) ρ2) := ⟨fun f first pins s σ H R Q hk I q h => by
  refine callWith_KW0 (h₀ := X.base) I.ok.mod.kin hk hall (thn (hkw.run pos pins s σ H (fun zs H' => R [] zs H') I ?_) fun ws s1 ⟨zs, H1, I1, rz, q⟩ => ⟨I1.kIn, ?_⟩) hpl
  · obtain ⟨B, W, ρ, R', q⟩ := q
    exact ⟨B, W, ρ, R', M.wp_mono (fun r p => p.imp fun ys ρ1 W1 H1 S1 R1 z zs hzs => wp_retE R1 z [] zs rfl hzs) (wp_seqE q)⟩
  · rw [hks]
    exact h [] ws [] zs s1 H1 I1 .nil rz q⟩

/-! ### a def is called -/
/-- how the written arguments come to the parameters: n of them by place, ks by name -/
structure BnD (K : PySem.W.Frag) (L : Ly K) (fd : FuncData) (ps : List Str) (n : Nat) (ks : List Str) (gD : List D → List D → List D) : Prop where
  to : ∀ (s : Shared) (us ws : List Value) (vs zs : List V), K.In s.heap → us.length = n → ws.length = ks.length → Vals vs us → Vals zs ws →
    ∃ full fv, BindsTo s fd ⟨us, ks.zip ws⟩ (ps.zip full) ∧ full.length = ps.length ∧ Vals fv full ∧ ∀ W H ds es, RepL L W H ds vs → RepL L W H es zs → RepL L W H (gD ds es) fv
/-- all by place -/
theorem bn_all {K : PySem.W.Frag} {L : Ly K} {fd : FuncData} {ps : List Str} (h : Binds K fd ps []) : BnD K L fd ps ps.length [] fun ds _ => ds := ⟨fun s us ws vs zs X l1 l2 r1 r2 => by
  have b := h s us X (by rw [List.append_nil]; exact l1)
  rw [List.append_nil] at b
  exact ⟨us, vs, by rw [List.zip_nil_left]; exact b, l1, r1, fun W H ds es h1 _ => h1⟩⟩
theorem callM_wp {x : M (Except Err D)} {k : D → Rho → WM → Hp → Prop} (h : (callM x ρ).wp (PostE L B Wx W H σ k)) : x.wp fun r => match r with
    | .ok d => ∀ W' H', Stp B W H W' H' → Rel L B W' H' σ ρ → k d ρ W' H'
    | .error e => ∀ W' H' c dd, Stp B W H W' H' → Rel L B W' H' σ ρ → ERep L W' H' e c dd → Wx c dd σ H' := by
  refine M.wp_mono (fun r q => ?_) (M.wp_bind.mp h)
  cases r with
  | ok d =>
    simp only [fcD_eq] at q
    exact q
  | error e => exact q
/-- the callee runs: from its promise to what is wanted here -/
theorem spD_of {n : Nat} {m : FM} {ds : List D} {vs : List V} {k : D → Rho → WM → Hp → Prop} {Q : VK} (R : Rel L B W H σ ρ) (hl : vs.length = n) (hr : RepL L W H ds vs) (h : (callM (m ds) ρ).wp (PostE L B Wx W H σ k)) (hk : ∀ d W' H' v, Rel L B W' H' σ ρ → Stp B W H W' H' → Rep L W' H' d v → k d ρ W' H' → Q v H') :
    spD L n m vs H Q (WE Wx σ) := by
  obtain ⟨oa, R⟩ := R
  refine ⟨hl, W, ds, R.ok, hr, M.wp_mono (fun r q => ?_) (callM_wp h)⟩
  cases r with
  | ok d =>
    intro W' H' v c rv
    obtain ⟨R', S⟩ := R.call c
    exact hk d W' H' v ⟨oa, R'⟩ S rv (q W' H' S ⟨oa, R'⟩)
  | error e =>
    intro W' H' cc dd c er
    obtain ⟨R', S⟩ := R.call c
    exact q W' H' cc dd S ⟨oa, R'⟩ er
theorem run_fnD {pins : List (Addr × Obj)} {s : Shared} {Q : VK} {us : List Value} {vs : List V} {kw : List (Str × Value)} {full : List Value} {k : Nat} {f : Addr} {fd : FuncData} {ps : List Str} {sp : Sp} (F : FnOk X.prog X.w X.K X.mg X.base (L2.CX X.prog X.w) k f fd ps sp) (hr : Room k X.A) (tk : Takes X Wx)
    (hb : BindsTo s fd ⟨us, kw⟩ (ps.zip full)) (I : L2.Inv X pins σ H s) (r : Vals vs full) (h : sp vs H Q (WE Wx σ)) : wpAny (model X.prog X.w) X.A (call (.ref f) us kw) (EP X pins σ Q) X.xe s := by
  refine wpAny_call (codeAny_mono (F.run X.A X.stack s H ⟨us, kw⟩ full vs Q (WE Wx σ) hr I.env0 hb r h) fun r s' hq => ?_)
  cases r with
  | error e => exact passAt tk σ pins H s e s' I hq
  | ok fl => cases fl with
    | ret u => exact I.after hq
    | _ => exact False.elim hq
/-- what a call asks, at the values of its written arguments -/
def RCl {K : PySem.W.Frag} (L : Ly K) (np nk n : Nat) (gD : List D → List D → List D) (m : FM) (Q : VK) (E : XK) : List V → List V → Hp → Prop := fun vs zs H' => vs.length = np ∧ zs.length = nk ∧
  ∀ fv, fv.length = n → (∀ W H ds es, RepL L W H ds vs → RepL L W H es zs → RepL L W H (gD ds es) fv) → spD L n m fv H' Q E
theorem tCl_of {np nk n : Nat} {m : FM} {gD : List D → List D → List D} {ma : EM (List D × List D)} {Q : VK} (h : tE L Wx (eCall m np nk gD ma) σ H Q) : tCl L Wx ma σ H (RCl L np nk n gD m Q (WE Wx σ)) := by
  obtain ⟨B, W, ρ, R, q⟩ := h
  refine ⟨B, W, ρ, R, M.wp_mono (fun r p => p.imp fun a ρ1 W1 H1 S1 R1 z vs zs hvs hzs => ?_) (wp_seqE q)⟩
  split at z
  · rename_i hl
    refine ⟨by rw [hvs.length]; exact hl.1, by rw [hzs.length]; exact hl.2, fun fv hf hg => spD_of R1 hf (hg W1 H1 _ _ hvs hzs) z fun d W' H' v _ _ rv hq => hq v rv⟩
  · exact z.elim
theorem d_call {k np : Nat} {f : Addr} {fd : FuncData} {ps ks : List Str} {m : FM} {gD : List D → List D → List D} {ma : EM (List D × List D)} {x : Str} {p pos : Pos} {args : List Expr} {kws : List Keyword}
    (F : FnOk X.prog X.w X.K X.mg X.base (L2.CX X.prog X.w) k f fd ps (spD L ps.length m)) (hr : Room k X.A) (tk : Takes X Wx) (hg : Gl X x) (hm : X.mg x = some (.ref f)) (hkp : keepIn X.K (.ref f) = true) (hb : BnD X.K L fd ps np ks gD)
    (hc : PCl X pos args kws ks (tCl L Wx ma)) (hdb : (x == ("__debug__" : Str)) = false := by decide) :
    PE X (.Call (.Name x p) args kws pos) (tE L Wx (eCall m np ks.length gD ma)) := by
  refine ⟨fun pins s σ H Q I h => ?_⟩
  refine wpAny_Call_Name_kw (ld_glob I hg hm ?_ hdb)
  refine hc.run (.ref f) [] pins s σ H _ _ hkp I (tCl_of (n := ps.length) h) fun us ws vs zs s' H' I' r rz ⟨l1, l2, hR⟩ => ?_
  obtain ⟨full, fv, b, lf, rf, hgD⟩ := hb.to s' us ws vs zs I'.kIn (r.length.symm.trans l1) (rz.length.symm.trans l2) r rz
  exact run_fnD F hr tk b I' rf (hR fv (rf.length.trans lf) hgD)

end
section
variable {K : PySem.W.Frag} {L : Ly K} {W W' : WM} {H H' : Hp}
/-! ### a def keeps its promise -/
theorem startR_rel {n : Nat} {ds : List D} {vs : List V} (N : List Str) (hn : N.length = n) (hl : vs.length ≤ n) (wk : WOk L W H) (r : RepL L W H ds vs) : Rel L (fun b => H b ≠ none ∧ W b = none) W H (L2.start N vs) (startR n ds) := by
  have dl := r.length
  refine ⟨fun _ => 0, by unfold L2.start startR; simp; omega, wk, fun i s q => ?_, fun i j t d1 t' d2 e => ?_, fun b h => ⟨h.1, h.2, ?_⟩, fun b h => ?_⟩
  · unfold startR at q
    by_cases hi : i < ds.length
    · rw [List.getElem?_append_left (by simpa using hi), List.getElem?_map] at q
      obtain ⟨d, e1, e2⟩ := Option.map_eq_some_iff.mp q
      obtain ⟨v, h1, h2⟩ := r.get e1
      subst e2
      refine ⟨v, ?_, h2⟩
      unfold L2.start
      rw [List.getElem?_append_left (by simpa [dl] using hi), List.getElem?_map, h1]
      rfl
    · rw [List.getElem?_append_right (by simpa using hi), List.getElem?_replicate] at q
      split at q
      · cases q
        trivial
      · cases q
  all_goals
    have no : ∀ (i : Nat) t d1, (startR n ds)[i]? ≠ some (Slot.own t d1) := fun i t d1 e => by
      unfold startR at e
      by_cases hi : i < ds.length
      · rw [List.getElem?_append_left (by simpa using hi), List.getElem?_map] at e
        obtain ⟨d, e1, e2⟩ := Option.map_eq_some_iff.mp e
        cases e2
      · rw [List.getElem?_append_right (by simpa using hi), List.getElem?_replicate] at e
        split at e <;> cases e
  · exact absurd e (no _ _ _)
  · rintro ⟨i, t, d1, e, _⟩
    exact no _ _ _ e
  · obtain ⟨i, t, d1, e, _⟩ := h
    exact absurd e (no _ _ _)
/-- behind the body, the call's end -/
theorem ctr_end (h : Stp (fun b => H b ≠ none ∧ W b = none) W H W' H') (wk : WOk L W' H') (hB : ∀ b, (H b ≠ none ∧ W b = none) → W' b = none) : CTr L W H W' H' where
  same := fun b o e w => by
    rw [h.kb b ⟨by rw [e]; simp, w⟩]; exact e
  wk := h.tr.wld
  wn := fun b e => by
    cases q : W b with
    | some k => exact .inl rfl
    | none =>
      refine .inr ?_
      cases z : H b with
      | none => rfl
      | some o =>
        rw [hB b ⟨by rw [z]; simp, q⟩] at e
        cases e
  ok := wk
end
section
variable {P : Program} {w : World} {K : PySem.W.Frag} {mg : Str → Option Value} {base : Heap} {L : Ly K}
theorem fok {x qual : Str} {params : Arguments} {body : List Stmt} {scope : Scope} {dvs : List V} {kws : List (Str × V)} {f : Addr} {fd : FuncData} {N ps : List Str} {k n : Nat} {m : SM} (F : FunD K x qual params body scope dvs kws f fd) (S : FnScope N ps scope) (hn : N.length = n)
    (hb : ∀ (cdv : Value) (A : Around) (outer : List Env) (s : Shared) (H : Hp) (E : XK), Room k (A.deeper (envOfC qual scope s.heap.objs.size f cdv)) →
      PSs (cxOf (L2.CX P w) P w K mg base N qual scope f cdv A outer s H E) body (tS (K := K) L (fun c dd _ H => E c dd H) m)) : FnOk P w K mg base (L2.CX P w) (k + 1) f fd ps (spD L ps.length (runD n m)) := by
  refine F.ok S (fun vs H Q E h => h.1) fun cdv A outer s H vs Q E hr h => ⟨_, hb cdv A outer s H E hr, ?_⟩
  obtain ⟨hl, W, ds, wk, r, q⟩ := h
  unfold runD at q
  rw [fcL_eq, fcR_eq] at q
  have hp : ps.length ≤ n := by
    have := congrArg List.length S.pre
    rw [List.length_take] at this
    omega
  refine ⟨_, W, _, startR_rel N hn (by omega) wk r, M.wp_mono (fun r p => ?_) (M.wp_bind.mp q)⟩
  cases r with
  | nx ρ =>
    intro W' H' σ' st R
    obtain ⟨oa, R⟩ := R
    exact p W' H' .non (ctr_end st R.ok fun b hb => (R.bo b hb).2.1) rfl
  | rt d => exact fun W' H' v st wk' hB rv => p W' H' v (ctr_end st wk' hB) rv
  | ex e ρ =>
    intro W' H' σ' c dd st R er
    obtain ⟨oa, R⟩ := R
    exact p W' H' c dd (ctr_end st R.ok fun b hb => (R.bo b hb).2.1) er
  | bk ρ => exact p.elim
  | ct ρ => exact p.elim
end
end DL

/-! D8: tests, statements. -/
namespace DL
open PySem PySem.Spec PyProof.Rows L2 PySem.W
section
variable {X : Cx} {L : Ly X.K} {Wx : WX} {B : Addr → Prop} {W W1 W' : WM} {H H1 H' : Hp} {σ : L2.St} {ρ : Rho}

/-! ### tests -/
theorem tst_of {m : EM D} {Q : Bool → Hp → Prop} (h : tB' L Wx (eTst m) σ H Q) : tE L Wx m σ H fun x H' => ∃ k, x = .bl k ∧ Q k H' := by
  obtain ⟨B, W, ρ, R, q⟩ := h
  refine ⟨B, W, ρ, R, M.wp_mono (fun r p => p.imp fun d ρ1 W1 H1 S1 R1 z v hv => ?_) (wp_seqE q)⟩
  cases d with
  | bl b => exact ⟨b, hv, wp_retE R1 z⟩
  | _ => exact z.elim
theorem t_cmp {op : CmpOp} {a b : Expr} {pos : Pos} {g : D → D → Option D} {ma mb : EM D} (ho : OpR X (compareOp op) (rD L g)) (ha : PE X a (tE L Wx ma)) (hb : PE X b (tP L Wx mb)) (hm : behindInMarks op b = false := by rfl) : PT X (.Compare a [op] [b] pos) (tB' L Wx (eTst (eBin g ma mb))) :=
  PT.weak (pt_cmpR ho ha hb hm) fun _ _ _ q => tOp_D (tst_of q)
theorem t_cmpQ {op : CmpOp} {a b : Expr} {pos : Pos} {g : D → D → Option D} {ma : EM D} {mb : Rho → Option D} (ho : OpR X (compareOp op) (rD L g)) (ha : PE X a (tP L Wx ma)) (hb : PE X b (tQ L mb)) (hm : behindInMarks op b = false := by rfl) : PT X (.Compare a [op] [b] pos) (tB' L Wx (eTst (eBinQ g ma mb))) :=
  PT.weak (pt_cmpR ho ha hb hm) fun _ _ _ q => tOp_Q (tst_of q)
theorem t_val {e : Expr} {m : EM D} (h : PE X e (tE L Wx m)) (he : ∀ whole, isTrue e X.env whole = (do let v ← whole; standAt e.pos; holding [v] (truthy v)) := by intro _; rfl) : PT X e (tB' L Wx (eTst m)) :=
  PT.weak (pt_val h he) fun _ _ _ q => tst_of q
theorem t_not {a : Expr} {pos : Pos} {m : EM Bool} (ha : PT X a (tB' L Wx m)) : PT X (.UnaryOp .Not a pos) (tB' L Wx (eNotB m)) := PT.weak (pt_not ha) fun σ H Q q => by
  obtain ⟨B, W, ρ, R, q⟩ := q
  exact ⟨B, W, ρ, R, M.wp_mono (fun r p => p.imp fun b ρ1 W1 H1 S1 R1 z => wp_retE R1 z) (wp_seqE q)⟩
theorem w_and1 {a : Expr} {pos : Pos} {m : EM Bool} (ha : PT X a (tB' L Wx m)) : PW X (.BoolOp .And [a] pos) (tB' L Wx m) := pw_and1 ha
theorem w_or1 {a : Expr} {pos : Pos} {m : EM Bool} (ha : PT X a (tB' L Wx m)) : PW X (.BoolOp .Or [a] pos) (tB' L Wx m) := pw_or1 ha
theorem w_and {a b : Expr} {rest : List Expr} {pos : Pos} {m n : EM Bool} (ha : PT X a (tB' L Wx m)) (hb : PW X (.BoolOp .And (b :: rest) pos) (tB' L Wx n)) : PW X (.BoolOp .And (a :: b :: rest) pos) (tB' L Wx (eAndB m n)) := PW.weak (pw_and ha hb) fun σ H Q q => by
  obtain ⟨B, W, ρ, R, q⟩ := q
  refine ⟨B, W, ρ, R, M.wp_mono (fun r p => p.imp fun b ρ1 W1 H1 S1 R1 z => ?_) (wp_seqE q)⟩
  cases b with
  | true => exact ⟨B, W1, ρ1, R1, z⟩
  | false => exact wp_retE R1 z
theorem w_or {a b : Expr} {rest : List Expr} {pos : Pos} {m n : EM Bool} (ha : PT X a (tB' L Wx m)) (hb : PW X (.BoolOp .Or (b :: rest) pos) (tB' L Wx n)) : PW X (.BoolOp .Or (a :: b :: rest) pos) (tB' L Wx (eOrB m n)) := PW.weak (pw_or ha hb) fun σ H Q q => by
  obtain ⟨B, W, ρ, R, q⟩ := q
  refine ⟨B, W, ρ, R, M.wp_mono (fun r p => p.imp fun b ρ1 W1 H1 S1 R1 z => ?_) (wp_seqE q)⟩
  cases b with
  | true => exact wp_retE R1 z
  | false => exact ⟨B, W1, ρ1, R1, z⟩
/-! ### the same as values (flags) -/
theorem d_not {a : Expr} {pos : Pos} {m : EM D} (ha : PE X a (tE L Wx m)) : PE X (.UnaryOp .Not a pos) (tE L Wx (eNot m)) := PE.weak (pe_not ha) fun σ H Q q => by
  obtain ⟨B, W, ρ, R, q⟩ := q
  refine ⟨B, W, ρ, R, M.wp_mono (fun r p => p.imp fun d ρ1 W1 H1 S1 R1 z v hv => ?_) (wp_seqE q)⟩
  cases d with
  | bl b => exact ⟨b, hv, wp_retE R1 z _ rfl⟩
  | _ => exact z.elim
theorem d_one {op : BoolOp} {a : Expr} {pos : Pos} {m : EM D} (ha : PE X a (tE L Wx m)) : PE X (.BoolOp op [a] pos) (tE L Wx m) := pe_one ha
theorem d_and {a b : Expr} {rest : List Expr} {pos : Pos} {m n : EM D} (ha : PE X a (tE L Wx m)) (hb : PE X (.BoolOp .And (b :: rest) pos) (tE L Wx n)) : PE X (.BoolOp .And (a :: b :: rest) pos) (tE L Wx (eAnd m n)) := PE.weak (pe_and ha hb) fun σ H Q q => by
  obtain ⟨B, W, ρ, R, q⟩ := q
  refine ⟨B, W, ρ, R, M.wp_mono (fun r p => p.imp fun d ρ1 W1 H1 S1 R1 z v hv => ?_) (wp_seqE q)⟩
  cases d with
  | bl b =>
    refine ⟨b, hv, ?_⟩
    cases b with
    | true => exact ⟨B, W1, ρ1, R1, z⟩
    | false => exact wp_retE R1 z _ rfl
  | _ => exact z.elim
theorem d_or {a b : Expr} {rest : List Expr} {pos : Pos} {m n : EM D} (ha : PE X a (tE L Wx m)) (hb : PE X (.BoolOp .Or (b :: rest) pos) (tE L Wx n)) : PE X (.BoolOp .Or (a :: b :: rest) pos) (tE L Wx (eOr m n)) := PE.weak (pe_or ha hb) fun σ H Q q => by
  obtain ⟨B, W, ρ, R, q⟩ := q
  refine ⟨B, W, ρ, R, M.wp_mono (fun r p => p.imp fun d ρ1 W1 H1 S1 R1 z v hv => ?_) (wp_seqE q)⟩
  cases d with
  | bl b =>
    refine ⟨b, hv, ?_⟩
    cases b with
    | true => exact wp_retE R1 z _ rfl
    | false => exact ⟨B, W1, ρ1, R1, z⟩
  | _ => exact z.elim
theorem d_ifExp {c a b : Expr} {pos : Pos} {mc : EM Bool} {m n : EM D} (hc : PT X c (tB' L Wx mc)) (ha : PE X a (tE L Wx m)) (hb : PE X b (tE L Wx n)) : PE X (.IfExp c a b pos) (tE L Wx (eIf mc m n)) := PE.weak (pe_ifExp hc ha hb) fun σ H Q q => by
  obtain ⟨B, W, ρ, R, q⟩ := q
  refine ⟨B, W, ρ, R, M.wp_mono (fun r p => p.imp fun b ρ1 W1 H1 S1 R1 z => ?_) (wp_seqE q)⟩
  cases b with
  | true => exact ⟨B, W1, ρ1, R1, z⟩
  | false => exact ⟨B, W1, ρ1, R1, z⟩
theorem tChain_of {g g' : D → D → Option D} {ma mb mc : EM D} {Q : VK} (hb2 : ∀ y z d, g' y z = some d → ∃ k, d = .bl k) (h : tE L Wx (eChain g g' ma mb mc) σ H Q) : tChain (rD L g) (rD L g') (tE L Wx ma) (tE L Wx mb) (tP L Wx mc) σ H Q := by
  obtain ⟨B, W, ρ, R, q⟩ := h
  refine ⟨B, W, ρ, R, M.wp_mono (fun r p => p.imp fun x ρ1 W1 H1 S1 R1 z v hv => ?_) (wp_seqE q)⟩
  refine ⟨B, W1, ρ1, R1, M.wp_mono (fun r p => p.imp fun y ρ2 W2 H2 S2 R2 z2 u hu => ?_) (wp_seqE z)⟩
  cases e : g x y with
  | none => rw [e] at z2; exact z2.elim
  | some d =>
    rw [e] at z2
    refine ⟨W2, x, y, d, R2.wok, e, .inl (hv.tr S2.tr), .inl hu, fun H' w s hw => ?_⟩
    obtain ⟨R3, S3⟩ := R2.same s
    cases d with
    | bl k =>
      refine ⟨k, hw, ?_⟩
      cases k with
      | true =>
        rw [if_pos rfl]
        have z3 : ((bindE (mc ρ2) fun z ρ3 => optE (g' y z) ρ3)).wp (PostE L B Wx W2 H2 σ _) := z2
        refine ⟨B, W2, ρ2, R3, M.wp_mono (fun r p => p.imp fun c ρ3 W3 H3 S4 R4 z4 t ht => ?_) (wp_seqE (M.wp_mono (fun r p => p.from S3) z3))⟩
        cases e2 : g' y c with
        | none => rw [e2] at z4; exact z4.elim
        | some d2 =>
          rw [e2] at z4
          refine ⟨W3, y, c, d2, R4.wok, e2, .inl ((hu.tr S3.tr).tr S4.tr), ht, fun H5 w5 s5 hw5 => ?_⟩
          obtain ⟨R6, S6⟩ := R4.same s5
          exact z4 W3 H5 S6 R6 w5 hw5
      | false =>
        rw [if_neg (by decide)]
        exact z2 W2 H' S3 R3 _ rfl
    | _ => exact z2.elim
theorem ord_bl {p : Int → Int → Bool} (y z d : D) (h : ordO p y z = some d) : ∃ k, d = .bl k := by
  unfold ordO at h
  split at h
  · exact ⟨_, (Option.some.inj h).symm⟩
  · cases h
theorem map_bl {o : Option Bool} {f : Bool → Bool} {d : D} (h : o.map (fun b => D.bl (f b)) = some d) : ∃ k, d = .bl k := by
  obtain ⟨b, _, e⟩ := Option.map_eq_some_iff.mp h
  exact ⟨_, e.symm⟩
theorem d_chain {op op' : CmpOp} {a b c : Expr} {pos : Pos} {g g' : D → D → Option D} {ma mb mc : EM D} (ho : OpR X (compareOp op) (rD L g)) (ho' : OpR X (compareOp op') (rD L g')) (hb2 : ∀ y z d, g' y z = some d → ∃ k, d = .bl k)
    (ha : PE X a (tE L Wx ma)) (hb : PE X b (tE L Wx mb)) (hc : PE X c (tP L Wx mc)) (hm : lastMarks [op, op'] [b, c] = false := by with_unfolding_all rfl) : PE X (.Compare a [op, op'] [b, c] pos) (tE L Wx (eChain g g' ma mb mc)) :=
  PE.weak (pe_chain ho ho' ha hb hc hm) fun _ _ _ q => tChain_of hb2 q
theorem t_chain {op op' : CmpOp} {a b c : Expr} {pos : Pos} {g g' : D → D → Option D} {ma mb mc : EM D} (ho : OpR X (compareOp op) (rD L g)) (ho' : OpR X (compareOp op') (rD L g')) (hb2 : ∀ y z d, g' y z = some d → ∃ k, d = .bl k)
    (ha : PE X a (tE L Wx ma)) (hb : PE X b (tE L Wx mb)) (hc : PE X c (tP L Wx mc)) (hm : lastMarks [op, op'] [b, c] = false := by with_unfolding_all rfl) : PT X (.Compare a [op, op'] [b, c] pos) (tB' L Wx (eTst (eChain g g' ma mb mc))) :=
  PT.weak (pt_chain ho ho' ha hb hc hm) fun _ _ _ q => tChain_of hb2 (tst_of q)
theorem emp_rep {ds : List D} {vs : List V} (h : RepL L W H ds vs) : ds.isEmpty = vs.isEmpty := by
  have l := h.length
  cases ds <;> cases vs <;> first | rfl | simp at l
theorem truV_of {d : D} {v : V} {b : Bool} (h : RepP L W H d v) (e : truD d = some b) : TruV X.K v H b := by
  cases d with
  | non => rw [h.non]; cases e; rfl
  | bl => rw [h.bl]; cases e; rfl
  | int => rw [h.int]; cases e; rfl
  | str s =>
    simp only [truD] at e
    split at e
    · rename_i hl
      cases e
      rw [h.str]
      exact ⟨by rw [sz_eq]; exact hl, rfl⟩
    · cases e
  | wld => cases e
  | node t ds =>
    cases t with
    | lst =>
      obtain ⟨a, vs, rfl, ha, ra⟩ := h.lst
      cases e
      exact .inl ⟨vs, .inl ha, by rw [emp_rep ra]⟩
    | tup =>
      obtain ⟨a, vs, rfl, ha, ra⟩ := h.tup
      cases e
      exact .inr (.inl ⟨vs, ha, by rw [emp_rep ra]⟩)
    | _ => cases e
theorem t_truth {e : Expr} {m : EM D} (h : PE X e (tP L Wx m)) (he : ∀ whole, isTrue e X.env whole = (do let v ← whole; standAt e.pos; holding [v] (truthy v)) := by intro _; rfl) : PT X e (tB' L Wx (eTru m)) :=
  PT.weak (pt_truth h he) fun σ H Q q => by
    obtain ⟨B, W, ρ, R, q⟩ := q
    refine ⟨B, W, ρ, R, M.wp_mono (fun r p => p.imp fun d ρ1 W1 H1 S1 R1 z v hv => ?_) (wp_seqE q)⟩
    cases e : truD d with
    | none => rw [e] at z; exact z.elim
    | some b =>
      rw [e] at z
      exact ⟨b, truV_of hv e, wp_retE R1 z⟩

/-! ### statements -/
theorem Rel.nB (R : Rel L B W H σ ρ) : ∀ b, B b → W b = none := by
  obtain ⟨oa, R⟩ := R
  exact fun b h => (R.bo b h).2.1
theorem Rel.put (R : Rel L B W H σ ρ) (i : Nat) {d : D} {v : V} (h : Rep L W H d v) : Rel L B W H (σ.set i (some v)) (ρ.set i (.val d)) := by
  obtain ⟨oa, R⟩ := R
  exact ⟨oa, R.putV i h⟩
theorem s_ret {e : Expr} {pos : Pos} {m : EM D} (h : PE X e (tE L Wx m)) : PS X (.Return (some e) pos) (tS L Wx (sRet m)) := PS.weak (ps_ret h) fun E σ H q => by
  obtain ⟨B, W, ρ, R, q⟩ := q
  exact ⟨B, W, ρ, R, M.wp_mono (fun r p => p.imp fun d ρ1 W1 H1 S1 R1 z v hv => z W1 H1 v Stp.refl R1.wok R1.nB hv) (wp_seqES q)⟩
theorem s_retN {pos : Pos} : PS X (.Return none pos) (tS L Wx sRetN) := PS.weak ps_retN fun E σ H q => by
  obtain ⟨B, W, ρ, R, q⟩ := q
  exact q W H .non Stp.refl R.wok R.nB rfl
theorem s_pass {pos : Pos} : PS X (.Pass pos) (tS L Wx sPass) := PS.weak ps_pass fun E σ H q => by
  obtain ⟨B, W, ρ, R, q⟩ := q
  exact q W H σ Stp.refl R
theorem s_brk {pos : Pos} : PS X (.Break pos) (tS L Wx sBrk) := PS.weak ps_break fun E σ H q => by
  obtain ⟨B, W, ρ, R, q⟩ := q
  exact q W H σ Stp.refl R
theorem s_cnt {pos : Pos} : PS X (.Continue pos) (tS L Wx sCnt) := PS.weak ps_continue fun E σ H q => by
  obtain ⟨B, W, ρ, R, q⟩ := q
  exact q W H σ Stp.refl R
theorem ss_nil : PSs X [] (tS L Wx sPass) := PSs.weak pss_nil fun E σ H q => by
  obtain ⟨B, W, ρ, R, q⟩ := q
  exact q W H σ Stp.refl R
theorem ss_one {st : Stmt} {m : SM} (h : PS X st (tS L Wx m)) : PSs X [st] (tS L Wx m) := pss_one h
theorem seq_of {m n : SM} {E : Ends} (h : tS L Wx (sSeq m n) E σ H) : tS L Wx m { E with nx := fun σ' H' => tS L Wx n E σ' H' } σ H := by
  obtain ⟨B, W, ρ, R, q⟩ := h
  refine ⟨B, W, ρ, R, M.wp_mono (fun r p => ?_) (wp_seqS q)⟩
  cases r with
  | nx ρ1 => exact fun W1 H1 σ1 S1 R1 => ⟨B, W1, ρ1, R1, p W1 H1 S1⟩
  | _ => exact p
theorem ss_cons {st : Stmt} {rest : List Stmt} {m n : SM} (h1 : PS X st (tS L Wx m)) (h2 : PSs X rest (tS L Wx n)) : PSs X (st :: rest) (tS L Wx (sSeq m n)) := PSs.weak (pss_cons h1 h2) fun _ _ _ q => seq_of q
theorem s_if {c : Expr} {a b : List Stmt} {pos : Pos} {mc : EM Bool} {m n : SM} (hc : PT X c (tB' L Wx mc)) (ha : PSs X a (tS L Wx m)) (hb : PSs X b (tS L Wx n)) : PS X (.If c a b pos) (tS L Wx (sIf mc m n)) := PS.weak (ps_if hc ha hb) fun E σ H q => by
  obtain ⟨B, W, ρ, R, q⟩ := q
  refine ⟨B, W, ρ, R, M.wp_mono (fun r p => p.imp fun k ρ1 W1 H1 S1 R1 z => ?_) (wp_seqES q)⟩
  cases k with
  | true => exact ⟨B, W1, ρ1, R1, z⟩
  | false => exact ⟨B, W1, ρ1, R1, z⟩
theorem s_expr {e : Expr} {pos : Pos} {m : EM D} (h : PE X e (tE L Wx m)) (hs : swapsWith e none pos.line X.env = pure false := by rfl) : PS X (.Expr e pos) (tS L Wx (sDrop m)) := PS.weak (ps_expr h hs) fun E σ H q => by
  obtain ⟨B, W, ρ, R, q⟩ := q
  exact ⟨B, W, ρ, R, M.wp_mono (fun r p => p.imp fun d ρ1 W1 H1 S1 R1 z v hv => z W1 H1 σ Stp.refl R1) (wp_seqES q)⟩
theorem s_doc {x j pos pos'} : PS X (.Expr (.Constant (.str x) j pos) pos') (tS L Wx sPass) := PS.weak ps_doc fun E σ H q => by
  obtain ⟨B, W, ρ, R, q⟩ := q
  exact q W H σ Stp.refl R
theorem set_of {i : Nat} {m : EM D} {E : Ends} (h : tS L Wx (sSet i m) E σ H) : tAsg (tE L Wx m) (gName i) E σ H := by
  obtain ⟨B, W, ρ, R, q⟩ := h
  exact ⟨B, W, ρ, R, M.wp_mono (fun r p => p.imp fun d ρ1 W1 H1 S1 R1 z v hv => by
    rw [fcD_eq, fcR_eq] at z
    exact z W1 H1 _ Stp.refl (R1.put i hv)) (wp_seqES q)⟩
theorem s_set {i : Nat} {x : Str} {e : Expr} {m : EM D} {pos pos' : Pos} (hN : X.N.Nodup) (hi : X.N[i]? = some x) (hx : Loc X.env.scope x) (he : PE X e (tE L Wx m)) (hs : swapsWith e (some (.Name x pos')) pos.line X.env = pure false := by rfl)
    (hf : X.fn x = true ∨ X.env.scope.names.lookup x = some .local := by first | exact .inl rfl | exact .inr rfl | assumption) : PS X (.Assign [.Name x pos'] e pos) (tS L Wx (sSet i m)) := PS.weak (ps_set hN hi hx he hs hf) fun _ _ _ q => set_of q
end
end DL

/-! DU: a, b = a list. -/
namespace DL
open PySem PySem.Spec PyProof.Rows L2 PySem.W
section
variable {prog : Program} {w : World} {A : Around} {E : Value → Shared → Prop} {s : Shared}
theorem draw_listU {it t : Addr} {items : Array Value} (hne : t ≠ it) : ∀ (n i : Nat) (s : Shared) (Q : List Value → Shared → Prop), s.heap.IsListIter it t i → s.heap.IsList t items → i + n ≤ items.size →
    (∀ h', h'.IsListIter it t (i + n) → Heap.SameBut it s.heap h' → Q ((items.toList.drop i).take n) { s with heap := h' }) → wpAny (model prog w) A (PySem.draw (.ref it) n) Q E s
  | 0, i, s, Q, hit, _, _, hQ => by
    show wpAny _ _ (pure []) Q E s
    exact wpAny_pure (by simpa using hQ s.heap hit (Heap.SameBut.refl ..))
  | n + 1, i, s, Q, hit, ht, hle, hQ => by
    have hlt : i < items.size := by omega
    show wpAny _ _ (pyNext (.ref it) >>= _) Q E s
    refine wpAny_bind (wpAny_pyNext_list_item hit ht (x := items[i]) (by simp [hlt]) fun h₁ hit₁ hs₁ => ?_)
    refine wpAny_bind (wpAny_holding (draw_listU hne n (i + 1) _ _ hit₁ (ht.extBut hs₁.extBut hne) (by omega) fun h₂ hit₂ hs₂ => wpAny_pure ?_))
    have hd : items.toList.drop i = items[i] :: items.toList.drop (i + 1) := by simp [List.drop_eq_getElem_cons, hlt]
    have := hQ h₂ (by rw [show i + (n + 1) = i + 1 + n by omega]; exact hit₂) (hs₁.trans hs₂)
    rw [hd, List.take_succ_cons] at this
    exact this
theorem unpack_listU {t : Addr} {items : Array Value} {Q : List Value → Shared → Prop} (hh : A.handled = none) (ht : s.heap.IsList t items)
    (hQ : ∀ h', Heap.ExtBut s.heap.objs.size s.heap h' → Q items.toList { s with heap := h' }) : wpAny (model prog w) A (unpackItems (.ref t) items.size none) Q E s := by
  have hlt : t ≠ s.heap.objs.size := by obtain ⟨o, ho, _⟩ := ht; exact Nat.ne_of_lt (Heap.lt_size ho)
  unfold unpackItems
  refine wpAny_bind ?_
  · unfold notIterableAtAll
    refine wpAny_bind (wpAny_specialOf ht.typeIs slot_list_iter.lookup ?_)
    refine wpAny_pure ?_
    simp only [Bool.false_eq_true, if_false]
    refine wpAny_bind (wpAny_holding (wpAny_pyIter_list ht ?_))
    refine wpAny_bind (wpAny_holding (draw_listU hlt items.size 0 _ _ ⟨_, Heap.get?_push_size _ rfl, rfl, rfl⟩ (ht.push _) (by omega) fun h₁ hit₁ hs₁ => ?_))
    have hall : List.take items.size (List.drop 0 items.toList) = items.toList := by
      rw [List.drop_zero]; exact List.take_of_length_le (by simp)
    rw [hall]
    rw [if_neg (by simp)]
    have ht₁ : h₁.IsList t items := (ht.push _).extBut hs₁.extBut hlt
    refine wpAny_bind (wpAny_holding (wpAny_pyNext_list_end hh hit₁ ht₁ (by simp) fun h₂ he₂ => ?_))
    simp only [Option.isSome_none, Bool.false_eq_true, if_false]
    refine wpAny_pure (hQ h₂ fun b o hb e => he₂ b o hb (hs₁.extBut b o hb (Heap.get?_push_of_some _ e)))
theorem assign_listU {env : Env} {elts : List Expr} {x1} {pos : Pos} {t : Addr} {items : Array Value} {Q : Unit → Shared → Prop} (hh : A.handled = none) (ht : s.heap.IsList t items)
    (hn : (assignEach elts env).length = items.size) (hstar : (assignEach elts env).findIdx? (·.1) = none)
    (h : ∀ h', Heap.ExtBut s.heap.objs.size s.heap h' → wpAny (model prog w) A (assignInOrder ((assignEach elts env).map (·.2)) items.toList) Q E { s with heap := h' }) :
    wpAny (model prog w) A (assign (.Tuple elts x1 pos) env (.ref t)) Q E s := by
  rw [arm_assign_Tuple]
  refine wpAny_bind (wpAny_standAt ?_)
  unfold unpack
  rw [hn, hstar]
  exact wpAny_bind (wpAny_holding (unpack_listU hh ht h))
end
/-- (a, b, ..) = a list of that length -/
def gLstU (K : PySem.W.Frag) (n : Nat) (t : TGs) : TG := fun v σ H Q => ∃ a xs, v = .ref a ∧ (SqL K H a xs ∨ SqT K H a xs) ∧ xs.length = n ∧ t xs σ H Q
theorem pg_seqU {X : Cx} {pos : Pos} {es : List Expr} {k : Nat} {t : TGs} {n : Nat} (hc : X.calm = true) (h : PGs X es t)
    (hn : (assignEach es X.env).length = n := by rfl) (hst : (assignEach es X.env).findIdx? (·.1) = none := by rfl) : PG X (.Tuple es k pos) (gLstU X.K n t) := by
  refine ⟨fun pins s σ H v u Q I r hw => ?_⟩
  obtain ⟨a, xs, e1, hq, hl, hw⟩ := hw
  rcases hq with hq | hq
  · subst e1
    cases r
    obtain ⟨its, rv, ⟨o, n', e, c, dd, d⟩, hz⟩ := I.list hq
    refine assign_listU (items := its.toArray) (I.ok.hd hc) ⟨o, e, c, n', d⟩ (by simp [hn, ← hl, rv.length]) hst fun h' hx => ?_
    have I1 : Inv X pins σ H { s with heap := h' } := I.kept (t' := s.toks) fun b o e => hx b o (Nat.ne_of_lt (Heap.lt_size e)) e
    exact h.run pins _ σ H xs _ Q I1 (by simpa using rv) hw
  · exact (pg_tup hc h hn hst).run pins s σ H v u Q I r ⟨a, xs, e1, hq, hl, hw⟩
end DL

/-! D9: targets, what is walked, for, new objects, list comprehensions. -/
namespace DL
open PySem PySem.Spec PyProof.Rows L2 PySem.W

/-- a target that sets the slots js -/
def gD {K : PySem.W.Frag} (L : Ly K) (js : List Nat) (m : GM) : TG := fun x σ H N => ∃ B W ρ d ρ', Rel L B W H σ ρ ∧ Rep L W H d x ∧ m d ρ = some ρ' ∧
  ∀ σ', Rel L B W H σ' ρ' → σ'.length = σ.length → (∀ j, j ∉ js → σ'[j]? = σ[j]?) → N σ' H
section
variable {X : Cx} {L : Ly X.K} {Wx : WX} {B : Addr → Prop} {W W1 W' : WM} {H H1 H' : Hp} {σ : L2.St} {ρ ρ' : Rho} {pos : Pos}
theorem PG.weak {tg : Expr} {t t' : TG} (h : PG X tg t) (w : ∀ x σ H N, t' x σ H N → t x σ H N) : PG X tg t' := ⟨fun pins s σ H v u Q I r q => h.run pins s σ H v u Q I r (w _ _ _ _ q)⟩
theorem PGs.weak {tg : List Expr} {t t' : TGs} (h : PGs X tg t) (w : ∀ x σ H N, t' x σ H N → t x σ H N) : PGs X tg t' := ⟨fun pins s σ H v u Q I r q => h.run pins s σ H v u Q I r (w _ _ _ _ q)⟩
theorem g_name {i : Nat} {tg : Expr} (h : PG X tg (gName i)) : PG X tg (gD L [i] (gSet i)) := PG.weak h fun x σ H N q => by
  obtain ⟨B, W, ρ, d, ρ', R, r, e, q⟩ := q
  cases e
  refine q _ (R.put i r) (by simp) fun j hj => ?_
  rw [List.getElem?_set_ne (fun e => hj (by simp [e]))]
/-- several targets -/
def gsD {K : PySem.W.Frag} (L : Ly K) (js : List Nat) (m : List D → Rho → Option Rho) : TGs := fun xs σ H N => ∃ B W ρ ds ρ', Rel L B W H σ ρ ∧ RepL L W H ds xs ∧ m ds ρ = some ρ' ∧
  ∀ σ', Rel L B W H σ' ρ' → σ'.length = σ.length → (∀ j, j ∉ js → σ'[j]? = σ[j]?) → N σ' H
theorem gs_nil : PGs X [] (gsD L [] gsNil) := PGs.weak pgs_nil fun xs σ H N q => by
  obtain ⟨B, W, ρ, ds, ρ', R, r, e, q⟩ := q
  cases ds with
  | nil =>
    cases e
    exact ⟨r, q σ R rfl fun _ _ => rfl⟩
  | cons => cases e
theorem gs_cons {e : Expr} {es : List Expr} {js js' : List Nat} {g : GM} {m : List D → Rho → Option Rho} (h1 : PG X e (gD L js g)) (h2 : PGs X es (gsD L js' m))
    (hs : (assignEach (e :: es) X.env).map (·.2) = assign e X.env :: (assignEach es X.env).map (·.2) := by rfl) : PGs X (e :: es) (gsD L (js ++ js') (gsCons g m)) := PGs.weak (pgs_cons h1 h2 hs) fun xs σ H N q => by
  obtain ⟨B, W, ρ, ds, ρ', R, r, e, q⟩ := q
  cases ds with
  | nil => cases e
  | cons d ds =>
    obtain ⟨v, vr, e2, r1, r2⟩ := r
    obtain ⟨ρ1, e3, e4⟩ := Option.bind_eq_some_iff.mp e
    exact ⟨v, vr, e2, B, W, ρ, d, ρ1, R, r1, e3, fun σ' R' hl hj => ⟨B, W, ρ1, ds, ρ', R', r2, e4, fun σ2 R2 hl2 hj2 => q σ2 R2 (hl2.trans hl) fun j hn =>
      (hj2 j fun z => hn (List.mem_append_right _ z)).trans (hj j fun z => hn (List.mem_append_left _ z))⟩⟩
theorem g_tup {es : List Expr} {k n : Nat} {js : List Nat} {m : List D → Rho → Option Rho} (hc : X.calm = true) (h : PGs X es (gsD L js m)) (hn : (assignEach es X.env).length = n := by rfl) (hst : (assignEach es X.env).findIdx? (·.1) = none := by rfl) :
    PG X (.Tuple es k pos) (gD L js (gTupD n m)) := PG.weak (pg_seqU hc h hn hst) fun x σ H N q => by
  obtain ⟨B, W, ρ, d, ρ', R, r, e, q⟩ := q
  unfold gTupD at e
  split at e
  · rename_i ds
    split at e
    · rename_i hl
      obtain ⟨a, vs, e1, h1, h2⟩ := r
      exact ⟨a, vs, e1, .inr h1, h2.length.trans hl, B, W, ρ, ds, ρ', R, h2, e, q⟩
    · cases e
  · rename_i ds
    split at e
    · rename_i hl
      obtain ⟨a, vs, e1, ⟨od, h1⟩, h2⟩ := r
      exact ⟨a, vs, e1, .inl (.inl (.inr ⟨od, h1⟩)), h2.length.trans hl, B, W, ρ, ds, ρ', R, h2, e, q⟩
    · cases e
  · cases e
theorem asg_of {js : List Nat} {m : EM D} {g : GM} {E : Ends} (h : tS L Wx (sAsg m g) E σ H) : tAsg (tE L Wx m) (gD L js g) E σ H := by
  obtain ⟨B, W, ρ, R, q⟩ := h
  refine ⟨B, W, ρ, R, M.wp_mono (fun r p => p.imp fun d ρ1 W1 H1 S1 R1 z v hv => ?_) (wp_seqES q)⟩
  rw [fcD_eq] at z
  cases e : g d ρ1 with
  | none => rw [e] at z; exact z.elim
  | some ρ2 =>
    rw [e] at z
    simp only [fcR_eq] at z
    exact ⟨B, W1, ρ1, d, ρ2, R1, hv, e, fun σ' R' _ _ => z W1 H1 σ' Stp.refl R'⟩
theorem s_asg {tg e : Expr} {js : List Nat} {m : EM D} {g : GM} (he : PE X e (tE L Wx m)) (hg : PG X tg (gD L js g)) (hs : swapsWithSole [tg] e pos.line X.env = pure false := by rfl) (hw : swappedStores [tg] e X.env = pure none := by rfl)
    (h1 : (assignEach [tg] X.env).map (·.2) = [assign tg X.env] := by rfl) : PS X (.Assign [tg] e pos) (tS L Wx (sAsg m g)) := PS.weak (ps_asg he hg hs hw h1) fun _ _ _ q => asg_of q

/-! ### what is walked -/
structure ItD {K : PySem.W.Frag} (L : Ly K) (J : It) (ds : List D) (W : WM) (H : Hp) : Prop where
  go : ∀ i d W' H', Tr W H W' H' → ds[i]? = some d → J.go i H' ∧ ∀ x H'', J.yld i H' x H'' → Same H' H'' ∧ Rep L W' H'' d x
  stop : ∀ i W' H', Tr W H W' H' → ds.length ≤ i → J.stop i H'
def tI {K : PySem.W.Frag} (L : Ly K) (Wx : WX) (m : EM (List D)) : TI := fun σ H R => ∃ B W ρ, Rel L B W H σ ρ ∧ (m ρ).wp (PostE L B Wx W H σ fun ds _ W' H' => ∀ J, ItD L J ds W' H' → R J H')
theorem PI.weak {tg e : Expr} {t t' : TI} (h : PI X tg e t) (w : ∀ σ H R, t' σ H R → t σ H R) : PI X tg e t' := ⟨fun pins s σ H R I q => h.run pins s σ H R I (w _ _ _ q)⟩
theorem kV_rep {k : Key} : Rep L W H (dK' k) (kV k) := by
  cases k <;> exact rfl
theorem kVs_rep : ∀ {ks : List Key}, RepL L W H (ks.map dK') (ks.map kV)
  | [] => rfl
  | k :: ks => ⟨_, _, rfl, kV_rep, kVs_rep⟩
theorem itd_list {a : Addr} {ds : List D} {vs : List V} (h : At L H a .lst vs) (r : RepL L W H ds vs) : ItD L (Itl X.K a) ds W H where
  go := fun i d W' H' t e => by
    obtain ⟨v, h1, h2⟩ := r.get e
    obtain ⟨o, q⟩ := h.tr t
    exact ⟨⟨vs, v, .inl (.inr ⟨o, q⟩), h1⟩, fun x H'' y => by
      obtain ⟨rfl, y⟩ := y
      have := y vs (.inl (.inr ⟨o, q⟩))
      rw [h1] at this
      cases this
      exact ⟨fun _ _ e => e, h2.tr t⟩⟩
  stop := fun i W' H' t e => by
    obtain ⟨o, q⟩ := h.tr t
    exact ⟨vs, .inl (.inr ⟨o, q⟩), by rw [r.length]; exact e⟩
theorem itd_tup {a : Addr} {ds : List D} {vs : List V} (h : At L H a .tup vs) (r : RepL L W H ds vs) : ItD L (Itt X.K a) ds W H where
  go := fun i d W' H' t e => by
    obtain ⟨v, h1, h2⟩ := r.get e
    have q : SqT X.K H' a vs := h.tr t
    exact ⟨⟨vs, v, q, h1⟩, fun x H'' y => by
      obtain ⟨rfl, y⟩ := y
      have := y vs q
      rw [h1] at this
      cases this
      exact ⟨fun _ _ e => e, h2.tr t⟩⟩
  stop := fun i W' H' t e => ⟨vs, h.tr t, by rw [r.length]; exact e⟩
theorem itd_str {x : Str} : ItD L (Its x) (x.cps.toList.map fun c => .str ⟨#[c]⟩) W H where
  go := fun i d W' H' t e => by
    rw [List.getElem?_map] at e
    obtain ⟨c, e1, e2⟩ := Option.map_eq_some_iff.mp e
    have hi := (List.getElem?_eq_some_iff.mp e1).1
    refine ⟨show i < x.cps.size by simpa using hi, fun y H'' q => ?_⟩
    obtain ⟨rfl, c', q1, rfl⟩ := q
    refine ⟨fun _ _ e => e, ?_⟩
    have e3 : c = c' := by simpa [q1] using e1.symm
    subst e3 e2
    rfl
  stop := fun i W' H' t e => show x.cps.size ≤ i by simpa using e
theorem itd_keys {a : Addr} {o : Obj} {ks : List Key} {vs : List V} (h : H a = some (.frz o (.dK (ks.zip vs)))) (hl : ks.length = vs.length) : ItD L (Itk a o (ks.zip vs)) (ks.map dK') W H where
  go := fun i d W' H' t e => by
    have hz : (ks.zip vs).length = ks.length := by rw [List.length_zip]; omega
    have hi : i < ks.length := by simpa using (List.getElem?_eq_some_iff.mp e).1
    refine ⟨⟨t.keep _ _ h fun z => z, by omega⟩, fun x H'' y => ?_⟩
    obtain ⟨rfl, k, v, q, rfl⟩ := y
    refine ⟨fun _ _ e => e, ?_⟩
    rw [List.getElem?_map] at e
    obtain ⟨k', e1, e2⟩ := Option.map_eq_some_iff.mp e
    have := (List.getElem?_zip_eq_some.mp q).1
    rw [e1] at this
    cases this
    rw [← e2]
    exact kV_rep
  stop := fun i W' H' t e => ⟨t.keep _ _ h fun z => z, by rw [List.length_zip]; simp at e; omega⟩
theorem itd_keysT {a : Addr} {o : Obj} {ks : List (List Key)} {vs : List V} (h : H a = some (.frz o (.dT (ks.zip vs)))) (hl : ks.length = vs.length) : ItD L (Itkt a o (ks.zip vs)) (ks.map fun k => .node .tup (k.map dK')) W H where
  go := fun i d W' H' t e => by
    have hz : (ks.zip vs).length = ks.length := by rw [List.length_zip]; omega
    have hi : i < ks.length := by simpa using (List.getElem?_eq_some_iff.mp e).1
    refine ⟨⟨t.keep _ _ h fun z => z, by omega⟩, fun x H'' y => ?_⟩
    obtain ⟨rfl, k, v, a', q, rfl, ht⟩ := y
    refine ⟨fun _ _ e => e, ?_⟩
    rw [List.getElem?_map] at e
    obtain ⟨k', e1, e2⟩ := Option.map_eq_some_iff.mp e
    have := (List.getElem?_zip_eq_some.mp q).1
    rw [e1] at this
    cases this
    rw [← e2]
    exact ⟨a', _, rfl, .inl (.inl ht), kVs_rep⟩
  stop := fun i W' H' t e => ⟨t.keep _ _ h fun z => z, by rw [List.length_zip]; simp at e; omega⟩
theorem iter_any {pins : List (Addr × Obj)} {s : Shared} {tg : Expr} {R : It → Hp → Prop} {d : D} {ds : List D} {v : V} {u : Value} (I : Inv X pins σ H s) (ru : RelV v u) (hr : Rep L W H d v) (e : itemsD d = some ds) (q : ∀ J, ItD L J ds W H → R J H) :
    wpAny (model X.prog X.w) X.A (pyIter u) (PIE X pins σ tg R) X.xe s := by
  cases d with
  | str x =>
    cases e
    obtain rfl : v = _ := hr
    obtain ⟨t, rfl⟩ := ru
    have q := q _ (itd_str (x := x))
    by_cases ha : x.cps.all (· < 128) = true
    · exact wpAny_pyIter_ascii ha (pi_one (tk := s.toks) I _ (turn_str _ x t "str_ascii_iterator" (.inl rfl)) ⟨_, Heap.get?_push_size _ rfl, rfl, rfl⟩ q)
    · exact wpAny_pyIter_wide (by simpa using ha) (pi_one (tk := s.toks) I _ (turn_str _ x t "str_iterator" (.inr rfl)) ⟨_, Heap.get?_push_size _ rfl, rfl, rfl⟩ q)
  | node t xs =>
    obtain ⟨a, vs, rfl, ha, r⟩ := hr
    cases ru
    cases t with
    | lst =>
      cases e
      obtain ⟨o, ho⟩ := id ha
      obtain ⟨its, rv, p, hz⟩ := I.list (show SqL X.K H a vs from .inl (.inr ⟨o, ho⟩))
      exact wpAny_pyIter_list p.isList (pi_one (tk := s.toks) I _ (turn_list a _) ⟨_, Heap.get?_push_size _ rfl, rfl, rfl⟩ (q _ (itd_list ha r)))
    | tup =>
      cases e
      obtain ⟨its, rv, p, hz⟩ := I.tuple (show SqT X.K H a vs from ha)
      exact wpAny_pyIter_tuple (show s.heap.IsTuple a its.toArray from p) (pi_one (tk := s.toks) I _ (turn_tuple a _) ⟨_, Heap.get?_push_size _ rfl, rfl, rfl⟩ (q _ (itd_tup ha r)))
    | dct ks =>
      cases e
      obtain ⟨hl, o, ho⟩ := ha
      obtain ⟨hs, hgd, hx, es, ep, ws, hdt, hsz, kv, hm⟩ := I.frzK ho
      refine iter_keys hs hgd hx hdt (pi_one (tk := s.toks) I _ (turn_keys _ hdt) ⟨_, Heap.get?_push_size _ rfl, rfl, ?_⟩ (q _ (itd_keys ho hl)))
      rw [hsz]; rfl
    | dctT ks =>
      cases e
      obtain ⟨hl, o, ho⟩ := ha
      obtain ⟨hs, hgd, hx, es, ep, hdt, hsz, ent⟩ := I.frzT ho
      refine iter_keys hs hgd hx hdt (pi_one (tk := s.toks) I _ (turn_keysT _ hdt) ⟨_, Heap.get?_push_size _ rfl, rfl, ?_⟩ (q _ (itd_keysT ho hl)))
      rw [hsz]; rfl
    | obj c => cases e
  | _ => cases e
theorem i_val {tg e : Expr} {m : EM D} (he : PE X e (tE L Wx m)) : PI X tg e (tI L Wx (eIt m)) := ⟨fun pins s σ H R I q => by
  obtain ⟨B, W, ρ, RR, q⟩ := q
  refine thn (he.run pins s σ H (fun v H1 => ∃ W1 d ds, Rep L W1 H1 d v ∧ itemsD d = some ds ∧ ∀ J, ItD L J ds W1 H1 → R J H1) I ⟨B, W, ρ, RR, M.wp_mono (fun r p => p.imp fun d ρ1 W1 H1 S1 R1 z v hv => ?_) (wp_seqE q)⟩) fun u s1 ⟨x, H1, I1, r1, W1, d, ds, hr, e, q1⟩ => iter_any I1 r1 hr e q1
  cases e : itemsD d with
  | none => rw [e] at z; exact z.elim
  | some ds =>
    rw [e] at z
    exact ⟨W1, d, ds, hv, e, wp_retE R1 z⟩⟩
theorem itd_rng {i : Int} {n : Nat} {ds : List D} (e : ds = (List.range n).map fun (k : Nat) => D.int (i + (k : Int))) : ItD L (Itr i n) ds W H where
  go := fun k d W' H' t q => by
    subst e
    rw [List.getElem?_map] at q
    obtain ⟨c, e1, e2⟩ := Option.map_eq_some_iff.mp q
    have hi := (List.getElem?_eq_some_iff.mp e1).1
    rw [List.length_range] at hi
    rw [List.getElem?_range hi] at e1
    cases e1
    refine ⟨hi, fun x H'' y => ?_⟩
    obtain ⟨rfl, rfl⟩ := y
    subst e2
    exact ⟨fun _ _ e => e, rfl⟩
  stop := fun k W' H' t q => by
    subst e
    show n ≤ k
    simpa using q
theorem rgOk_of {i : Int} (h : rgOk i = true) : -(2 ^ 62) ≤ i ∧ i < 2 ^ 62 := by
  unfold rgOk at h
  rw [Bool.and_eq_true, decide_eq_true_eq, decide_eq_true_eq] at h
  have e : (2 : Int) ^ 62 = 4611686018427387904 := by decide
  rw [e]
  exact h
theorem rgFrom_eq : ∀ (n : Nat) (i : Int), rgFrom n i = (List.range n).map fun (k : Nat) => D.int (i + (k : Int))
  | 0, _ => rfl
  | n + 1, i => by
    rw [List.range_succ_eq_map, List.map_cons, List.map_map]
    show _ :: rgFrom n (i + 1) = _
    rw [rgFrom_eq n (i + 1)]
    congr 1
    · simp
    · refine List.map_congr_left fun k _ => ?_
      show D.int _ = D.int _
      congr 1
      simp
      omega
theorem rep_ints1 {a : D} {vs : List V} (h : RepL L W H [a] vs) : ∃ x, vs = [x] ∧ Rep L W H a x := by
  obtain ⟨v, r, e, h1, h2⟩ := h
  cases h2
  exact ⟨v, e, h1⟩
theorem rep_ints2 {a b : D} {vs : List V} (h : RepL L W H [a, b] vs) : ∃ x y, vs = [x, y] ∧ Rep L W H a x ∧ Rep L W H b y := by
  obtain ⟨v, r, e, h1, h2⟩ := h
  obtain ⟨y, rfl, h3⟩ := rep_ints1 h2
  exact ⟨v, y, e, h1, h3⟩
theorem i_rng1 {tg a : Expr} {m : EM (List D)} {p : Pos} (hg : Gl X "range") (hm : X.mg "range" = none) (ha : PA X [a] (tAs L Wx m)) (hs : starEach [a] X.env = [(false, eval a X.env)] := by rfl) : PI X tg (.Call (.Name "range" p) [a] [] pos) (tI L Wx (eRng1 m)) :=
  PI.weak (pi_range1 hg hm ha hs) fun σ H R q => by
    obtain ⟨B, W, ρ, RR, q⟩ := q
    refine ⟨B, W, ρ, RR, M.wp_mono (fun r p => p.imp fun ds ρ1 W1 H1 S1 R1 z vs hv => ?_) (wp_seqE q)⟩
    unfold rngD1 at z
    split at z
    · rename_i j
      split at z
      · rename_i ok
        obtain ⟨x, rfl, hx⟩ := rep_ints1 hv
        obtain rfl : x = _ := hx
        obtain ⟨o1, o2⟩ := rgOk_of ok
        exact ⟨j, rfl, o1, o2, wp_retE R1 z _ (itd_rng (rgFrom_eq _ _))⟩
      · exact z.elim
    · exact z.elim
theorem i_rng2 {tg a b : Expr} {m : EM (List D)} {p : Pos} (hg : Gl X "range") (hm : X.mg "range" = none) (ha : PA X [a, b] (tAs L Wx m)) (hs : starEach [a, b] X.env = [(false, eval a X.env), (false, eval b X.env)] := by rfl) (hs2 : starEach [b] X.env = [(false, eval b X.env)] := by rfl) :
    PI X tg (.Call (.Name "range" p) [a, b] [] pos) (tI L Wx (eRng2 m)) :=
  PI.weak (pi_range2 hg hm ha hs hs2) fun σ H R q => by
    obtain ⟨B, W, ρ, RR, q⟩ := q
    refine ⟨B, W, ρ, RR, M.wp_mono (fun r p => p.imp fun ds ρ1 W1 H1 S1 R1 z vs hv => ?_) (wp_seqE q)⟩
    unfold rngD2 at z
    split at z
    · rename_i i j
      split at z
      · rename_i ok
        rw [Bool.and_eq_true] at ok
        obtain ⟨x, y, rfl, hx, hy⟩ := rep_ints2 hv
        obtain rfl : x = _ := hx
        obtain rfl : y = _ := hy
        obtain ⟨o1, o2⟩ := rgOk_of ok.1
        obtain ⟨o3, o4⟩ := rgOk_of ok.2
        exact ⟨i, j, rfl, ⟨o1, o2, o3, o4⟩, wp_retE R1 z _ (itd_rng (rgFrom_eq _ _))⟩
      · exact z.elim
    · exact z.elim

/-! ### for -/
theorem for_of {js : List Nat} {it : EM (List D)} {g : GM} {body : SM} {E : Ends} (h : tS L Wx (sFor it g body) E σ H) : tFor (tI L Wx it) (gD L js g) (tS L Wx body) E σ H := by
  obtain ⟨B, W, ρ, R, q⟩ := h
  refine ⟨B, W, ρ, R, M.wp_mono (fun r p => p.imp fun xs ρ1 W1 H1 S1 R1 z J hJ => ?_) (wp_seqES q)⟩
  rw [fcL_eq] at z
  refine ⟨fun i m σ' H' => m = xs.length - i ∧ ∃ W' ρ', Rel L B W' H' σ' ρ' ∧ Tr W1 H1 W' H' ∧ (forGo g body (xs.drop i) ρ').wp (PostS L B Wx W' H' E), ⟨_, rfl, W1, ρ1, R1, Tr.refl, z⟩, ?_⟩
  rintro i m σ' H' ⟨hm, W', ρ', R', T', q'⟩
  by_cases hi : i < xs.length
  · have hx : xs[i]? = some xs[i] := List.getElem?_eq_getElem hi
    rw [List.drop_eq_getElem_cons hi] at q'
    obtain ⟨h1, h2⟩ := hJ.go i _ W' H' T' hx
    simp only [forGo, fcD_eq, fcR_eq] at q'
    cases e : g xs[i] ρ' with
    | none => rw [e] at q'; exact q'.elim
    | some ρ2 =>
      rw [e] at q'
      have q2 := M.wp_bind.mp q'
      refine .inr ⟨h1, fun σ3 H3 => ∃ W3 ρ3, Rel L B W3 H3 σ3 ρ3 ∧ Stp B W' H' W3 H3 ∧ (forGo g body (xs.drop (i + 1)) ρ3).wp (PostS L B Wx W3 H3 E), fun σ3 H3 ⟨W3, ρ3, R3, S3, q3⟩ => ⟨xs.length - (i + 1), by omega, rfl, W3, ρ3, R3, T'.trans S3.tr, q3⟩, fun x H2 y => ?_⟩
      obtain ⟨sm, rx⟩ := h2 x H2 y
      obtain ⟨R2, S2⟩ := R'.same sm
      refine ⟨B, W', ρ', xs[i], ρ2, R2, rx, e, fun σ4 R4 _ _ => ⟨B, W', ρ2, R4, M.wp_mono (fun r p => ?_) q2⟩⟩
      cases r with
      | nx ρ3 => exact fun W3 H3 σ3 S3 R3 => ⟨W3, ρ3, R3, S2.trans S3, M.wp_mono (fun r p => p.from (S2.trans S3)) p⟩
      | ct ρ3 => exact fun W3 H3 σ3 S3 R3 => ⟨W3, ρ3, R3, S2.trans S3, M.wp_mono (fun r p => p.from (S2.trans S3)) p⟩
      | bk ρ3 => exact fun W3 H3 σ3 S3 R3 => p W3 H3 σ3 (S2.trans S3) R3
      | rt d => exact fun W3 H3 v S3 => p W3 H3 v (S2.trans S3)
      | ex e ρ3 => exact fun W3 H3 σ3 c dd S3 R3 => p W3 H3 σ3 c dd (S2.trans S3) R3
  · have hl : xs.length ≤ i := Nat.le_of_not_lt hi
    rw [List.drop_eq_nil_of_le hl] at q'
    exact .inl ⟨hJ.stop i W' H' T' hl, q' W' H' σ' Stp.refl R'⟩
theorem s_for {tg iter : Expr} {body : List Stmt} {js : List Nat} {it : EM (List D)} {g : GM} {mb : SM} (hp : PassesOwn (model X.prog X.w) X.A X.env X.xe) (hc : X.calm = true) (hi : PI X tg iter (tI L Wx it)) (hg : PG X tg (gD L js g)) (hb : PSs X body (tS L Wx mb))
    (hs : ∀ x, foldedSetIterable iter X.env x = pure x := by intro _; rfl) : PS X (.For tg iter body [] pos) (tS L Wx (sFor it g mb)) := PS.weak (ps_for hp hc hi hg hb hs) fun _ _ _ q => for_of q

/-! ### a new object -/
def tF {K : PySem.W.Frag} (L : Ly K) (Wx : WX) (m : EM (Tag × List D)) : TE := fun σ H Q => ∃ B W ρ, Rel L B W H σ ρ ∧ (m ρ).wp (PostE L B Wx W H σ fun p ρ' W' H' =>
  ∀ a vs, ¬ B a → Rel L (fun b => B b ∨ b = a) W' H' σ ρ' → OAt L H' a p.1 vs → RepL L W' H' p.2 vs → Q (.ref a) H')
theorem Rel.lessB {B' : Addr → Prop} (R : Rel L B' W H σ ρ) (h : ∀ b, B b → B' b) : Rel L B W H σ ρ := by
  obtain ⟨oa, R⟩ := R
  exact ⟨oa, R.len, R.ok, R.sl, R.inj, fun b hb => R.bo b (h b hb), R.ow⟩
theorem d_fz {e : Expr} {m : EM (Tag × List D)} (h : PE X e (tF L Wx m)) : PE X e (tE L Wx (eFz m)) := PE.weak (pe_frz h) fun σ H Q q => by
  obtain ⟨B, W, ρ, R, q⟩ := q
  refine ⟨B, W, ρ, R, M.wp_mono (fun r p => p.imp fun x ρ1 W1 H1 S1 R1 z a vs hB R2 ha hr => ?_) (wp_seqE q)⟩
  split at z
  · rename_i hw
    obtain ⟨oa, R2⟩ := R2
    obtain ⟨o, ho⟩ := mut_some ha.mut
    refine .inr ⟨a, o, rfl, ho, by rw [← ho]; exact ha.mut, fun od => ?_⟩
    have R3 : RelF L B W1 H1 σ ρ1 oa := ⟨R2.len, R2.ok, R2.sl, R2.inj, fun b hb => R2.bo b (.inl hb), R2.ow⟩
    obtain ⟨b1, b2, b3⟩ := R2.bo a (.inr rfl)
    obtain ⟨R4, S4⟩ := R3.lockT (o := .frz od o) ha.mut hB b2 b3
    refine z W1 _ S4 ⟨oa, R4⟩ _ ⟨a, vs, rfl, ha.frz ho upd_same fun c hc => ?_, hr.tr S4.tr⟩
    rw [hr.length]
    rw [hc] at hw
    simpa [whole] using hw
  · exact z.elim
theorem new_of {i : Nat} {m : EM (Tag × List D)} {E : Ends} (h : tS L Wx (sNew i m) E σ H) : tAsg (tF L Wx m) (gName i) E σ H := by
  obtain ⟨B, W, ρ, R, q⟩ := h
  refine ⟨B, W, ρ, R, M.wp_mono (fun r p => p.imp fun x ρ1 W1 H1 S1 R1 z a vs hB R2 ha hr => ?_) (wp_seqES q)⟩
  rw [fcT_eq, fcL_eq, fcR_eq] at z
  split at z
  · rename_i hi
    obtain ⟨oa, R2⟩ := R2
    have R3 : RelF L B W1 H1 σ ρ1 oa := ⟨R2.len, R2.ok, R2.sl, R2.inj, fun b hb => R2.bo b (.inl hb), R2.ow⟩
    obtain ⟨b1, b2, b3⟩ := R2.bo a (.inr rfl)
    exact z W1 H1 _ Stp.refl ⟨_, R3.putO i hi hB b2 b3 ha hr⟩
  · exact z.elim
theorem s_new {i : Nat} {x : Str} {e : Expr} {m : EM (Tag × List D)} {pos' : Pos} (hN : X.N.Nodup) (hi : X.N[i]? = some x) (hx : Loc X.env.scope x) (he : PE X e (tF L Wx m)) (hs : swapsWith e (some (.Name x pos')) pos.line X.env = pure false := by rfl)
    (hf : X.fn x = true ∨ X.env.scope.names.lookup x = some .local := by first | exact .inl rfl | exact .inr rfl | assumption) : PS X (.Assign [.Name x pos'] e pos) (tS L Wx (sNew i m)) := PS.weak (ps_set hN hi hx he hs hf) fun _ _ _ q => new_of q
theorem Rel.newB {o : HO} {p : Addr} (R : Rel L B W H σ ρ) (hp : H p = none) : Rel L (fun b => B b ∨ b = p) W (upd H p o) σ ρ ∧ Stp B W H W (upd H p o) ∧ ¬ B p := by
  obtain ⟨oa, R⟩ := R
  have nB : ¬ B p := fun z => (R.bo p z).1 hp
  have R1 := R.alloc (o := o) hp
  refine ⟨⟨oa, R1.len, R1.ok, R1.sl, R1.inj, fun b hb => ?_, R1.ow⟩, Stp.alloc R hp, nB⟩
  rcases hb with hb | rfl
  · exact R1.bo b hb
  · refine ⟨by rw [upd_same]; simp, ?_, fun z => ?_⟩
    · cases e : W b with
      | none => rfl
      | some k =>
        have := R.wmu e
        rw [hp] at this
        exact this.elim
    · have := R.omu z
      rw [hp] at this
      exact this.elim
theorem f_lst {es : List Expr} {m : EM (List D)} (h : PA X es (tAs L Wx m)) : PE X (.List es pos) (tF L Wx (eLst m)) := PE.weak (pe_lst h) fun σ H Q q => by
  obtain ⟨B, W, ρ, R, q⟩ := q
  refine ⟨B, W, ρ, R, M.wp_mono (fun r p => p.imp fun ds ρ1 W1 H1 S1 R1 z vs hr => ?_) (wp_seqE q)⟩
  split at z
  · rename_i hl
    refine ⟨by rw [hr.length, sz_eq]; exact hl, fun p hp => ?_⟩
    obtain ⟨R2, S2, nB⟩ := R1.newB (o := .lst vs) hp
    exact z W1 _ S2 (R2.lessB fun b h => .inl h) p vs nB R2 upd_same (hr.tr S2.tr)
  · exact z.elim
theorem tup_of {m : EM (List D)} {Q : VK} (h : tE L Wx (eTup m) σ H Q) : tAs L Wx m σ H fun xs H1 => xs.length ≤ sizeLine ∧ ∀ p, H1 p = none → Q (.ref p) (upd H1 p (.tup xs)) := by
  obtain ⟨B, W, ρ, R, q⟩ := h
  refine ⟨B, W, ρ, R, M.wp_mono (fun r p => p.imp fun ds ρ1 W1 H1 S1 R1 z vs hr => ?_) (wp_seqE q)⟩
  split at z
  · rename_i hl
    refine ⟨by rw [hr.length, sz_eq]; exact hl, fun p hp => ?_⟩
    obtain ⟨R2, S2, nB⟩ := R1.newB (o := .tup vs) hp
    exact z W1 _ S2 (R2.lessB fun b h => .inl h) _ ⟨p, vs, rfl, .inl (.inl upd_same), hr.tr S2.tr⟩
  · exact z.elim
theorem d_tup {es : List Expr} {x1} {m : EM (List D)} (h : PA X es (tAs L Wx m)) : PE X (.Tuple es x1 pos) (tE L Wx (eTup m)) := PE.weak (pe_tup h) fun _ _ _ q => tup_of q
theorem f_dctK : PE X (.Dict [] [] pos) (tF L Wx eDctK) := PE.weak pe_dnewK fun σ H Q q => by
  obtain ⟨B, W, ρ, R, q⟩ := q
  intro p hp
  obtain ⟨R2, S2, nB⟩ := R.newB (o := .dK []) hp
  exact q W _ S2 (R2.lessB fun b h => .inl h) p [] nB R2 ⟨rfl, upd_same⟩ rfl
theorem f_dctT : PE X (.Dict [] [] pos) (tF L Wx eDctT) := PE.weak pe_dnewT fun σ H Q q => by
  obtain ⟨B, W, ρ, R, q⟩ := q
  intro p hp
  obtain ⟨R2, S2, nB⟩ := R.newB (o := .dT []) hp
  exact q W _ S2 (R2.lessB fun b h => .inl h) p [] nB R2 ⟨rfl, upd_same⟩ rfl
end
end DL

/-! D10: list comprehensions, writes to own objects. -/
namespace DL
open PySem PySem.Spec PyProof.Rows L2 PySem.W

section
variable {K : PySem.W.Frag} {L : Ly K} {B : Addr → Prop} {W W1 W' : WM} {H H1 H' : Hp} {σ σ' : L2.St} {ρ ρ' : Rho}
theorem Rel.wipe (R : Rel L B W H σ ρ) : ∀ vs : List Nat, Rel L B W H (L2.wipe σ vs) (wipeR ρ vs)
  | [] => R
  | v :: vs => by
    obtain ⟨oa, R1⟩ := Rel.wipe R vs
    exact ⟨oa, R1.drop v none⟩
theorem wipe_get {σ : L2.St} {j : Nat} : ∀ (vs : List Nat), (L2.wipe σ vs)[j]? = if j ∈ vs then σ[j]?.map (fun _ => none) else σ[j]?
  | [] => by simp [L2.wipe]
  | v :: vs => by
    show ((L2.wipe σ vs).set v none)[j]? = _
    by_cases hj : v = j
    · subst hj
      rw [List.getElem?_set_self']
      simp only [List.mem_cons, true_or, if_true]
      rw [wipe_get vs]
      split
      · cases σ[v]? <;> rfl
      · cases σ[v]? <;> rfl
    · rw [List.getElem?_set_ne hj, wipe_get vs]
      have : (j ∈ v :: vs) ↔ j ∈ vs := by simp [Ne.symm hj]
      simp only [this]
theorem wipe_of {σ2 : L2.St} {js vs : List Nat} (hl : σ2.length = (L2.wipe σ vs).length) (h : ∀ j, j ∉ js → σ2[j]? = (L2.wipe σ vs)[j]?) (hs : ∀ j ∈ js, j ∈ vs) : L2.wipe σ2 vs = L2.wipe σ vs := by
  refine List.ext_getElem? fun j => ?_
  rw [wipe_get, wipe_get]
  by_cases hj : j ∈ vs
  · rw [if_pos hj, if_pos hj]
    rw [wipe_length] at hl
    by_cases z : j < σ.length
    · rw [List.getElem?_eq_getElem z, List.getElem?_eq_getElem (by omega)]; rfl
    · rw [List.getElem?_eq_none (by omega), List.getElem?_eq_none (by omega)]
  · rw [if_neg hj, if_neg hj, h j fun z => hj (hs j z), wipe_get, if_neg hj]
/-- slots that are not seen may be anything -/
theorem Rel.re (R : Rel L B W H σ' ρ) (hl : σ.length = σ'.length) (h : ∀ (j : Nat) (s : Slot), ρ[j]? = some s → s ≠ Slot.none → σ[j]? = σ'[j]?) : Rel L B W H σ ρ := by
  obtain ⟨oa, R⟩ := R
  refine ⟨oa, R.len.trans hl.symm, R.ok, fun i s e => ?_, R.inj, R.bo, R.ow⟩
  by_cases hs : s = Slot.none
  · subst hs; trivial
  · rw [h i s e hs]
    exact R.sl i s e
theorem wipeR_length {ρ : Rho} : ∀ vs : List Nat, (wipeR ρ vs).length = ρ.length
  | [] => rfl
  | v :: vs => by unfold wipeR; rw [List.length_set, wipeR_length vs]
theorem wipeR_get {ρ : Rho} {j : Nat} {s : Slot} : ∀ (vs : List Nat), (wipeR ρ vs)[j]? = some s → s ≠ .none → j ∉ vs
  | [], _, _ => by simp
  | v :: vs, e, hs => by
    have e : ((wipeR ρ vs).set v Slot.none)[j]? = some s := e
    by_cases hj : v = j
    · subst hj
      rw [List.getElem?_set_self'] at e
      cases q : (wipeR ρ vs)[v]? with
      | none => rw [q] at e; cases e
      | some y =>
        rw [q] at e
        cases e
        exact absurd rfl hs
    · rw [List.getElem?_set_ne hj] at e
      have := wipeR_get vs e hs
      simp [this, Ne.symm hj]
theorem Rel.unwipe0 {vs : List Nat} (R1 : Rel L B W H (L2.wipe σ vs) (wipeR ρ vs)) : Rel L B W H σ (wipeR ρ vs) := by
  refine R1.re (by rw [wipe_length]) fun j s q hs => ?_
  rw [wipe_get, if_neg (wipeR_get vs q hs)]
theorem wipe_wipe {vs : List Nat} : L2.wipe (L2.wipe σ vs) vs = L2.wipe σ vs := wipe_of (js := []) rfl (fun _ _ => rfl) (by simp)
theorem Rel.updB {p : Addr} {o : HO} (R : Rel L (fun b => B b ∨ b = p) W H σ ρ) (hm : Mut (H p)) (hB : ¬ B p) : Rel L (fun b => B b ∨ b = p) W (upd H p o) σ ρ ∧ Stp B W H W (upd H p o) := by
  obtain ⟨oa, R⟩ := R
  obtain ⟨b1, b2, b3⟩ := R.bo p (.inr rfl)
  have R0 : RelF L B W H σ ρ oa := ⟨R.len, R.ok, R.sl, R.inj, fun b hb => R.bo b (.inl hb), R.ow⟩
  obtain ⟨R1, S1⟩ := R0.lockT (o := o) hm hB b2 b3
  refine ⟨⟨oa, R1.len, R1.ok, R1.sl, R1.inj, fun b hb => ?_, R1.ow⟩, S1⟩
  rcases hb with hb | rfl
  · exact R1.bo b hb
  · exact ⟨by rw [upd_same]; simp, b2, b3⟩
end
section
variable {X : Cx} {L : Ly X.K} {Wx : WX} {B : Addr → Prop} {W W1 W' : WM} {H H1 H' : Hp} {σ : L2.St} {ρ ρ' : Rho} {pos : Pos}
abbrev W0 : WX := fun _ _ _ _ => False
theorem PTs.weak {e : List Expr} {t t' : TT} (h : PTs X e t) (w : ∀ σ H Q, t' σ H Q → t σ H Q) : PTs X e t' := ⟨fun pins s σ H Q I q => h.run pins s σ H Q I (w σ H Q q)⟩
theorem ts_nil : PTs X [] (tB' L Wx eYes) := PTs.weak pts_nil fun σ H Q q => by
  obtain ⟨B, W, ρ, R, q⟩ := q
  exact wp_retE R q
theorem ts_one {c : Expr} {m : EM Bool} (h : PT X c (tB' L Wx m)) : PTs X [c] (tB' L Wx m) := pts_one h
theorem bindN_assoc {α β γ : Type} (m : M (ER α)) (f : α → Rho → M (ER β)) (g : β → Rho → M (ER γ)) : bindE (bindN m f) g = bindN m fun a ρ => bindE (f a ρ) g := by
  unfold bindE bindN
  rw [M.bind_assoc]
  congr 1
  funext r
  cases r <;> rfl
theorem bindE_assoc {α β γ : Type} (m : M (ER α)) (f : α → Rho → M (ER β)) (g : β → Rho → M (ER γ)) : bindE (bindE m f) g = bindE m fun a ρ => bindE (f a ρ) g := by
  unfold bindE
  rw [M.bind_assoc]
  congr 1
  funext r
  cases r <;> rfl
theorem wp_seqN {α β : Type} {m : M (ER α)} {f : α → Rho → M (ER β)} {k : β → Rho → WM → Hp → Prop} {B' : Addr → Prop} {σ' : L2.St} (hB : ∀ b, B b → B' b) (h : (bindN m f).wp (PostE L B Wx W H σ k)) :
    m.wp (PostE L B' W0 W H σ' fun a ρ1 W1 H1 => (f a ρ1).wp (PostE L B Wx W1 H1 σ k)) := by
  refine M.wp_mono (fun r q => ?_) (M.wp_bind.mp h)
  cases r with
  | ok p => exact fun W1 H1 S R => M.wp_mono (fun r' q' => q'.from ⟨S.tr, fun b hb => S.kb b (hB b hb)⟩) q
  | error e => exact q.elim
theorem lcRest_cons {vs : List Nat} {g : GM} {tt : EM Bool} {te : EM D} {acc xs : List D} {x : D} {ρ ρ1 : Rho} (e : g x (wipeR ρ vs) = some ρ1) : lcRest vs g tt te acc (x :: xs) ρ = bindN (tt ρ1) fun b ρ2 => if b then bindN (te ρ2) fun y ρ3 => lcRest vs g tt te (acc ++ [y]) xs ρ3 else lcRest vs g tt te acc xs ρ2 := by
  unfold lcRest
  simp only [lcGo, e, fcD_eq, fcR_eq]
  rw [bindN_assoc]
  congr 1
  funext b ρ2
  cases b with
  | false => rfl
  | true =>
    simp only [if_true]
    rw [bindN_assoc]
    congr 1
    funext y ρ3
    rw [bindE_assoc]
    congr 1
    funext ys ρ4
    simp
theorem lc_of {js vs : List Nat} {it : EM (List D)} {g : GM} {tt : EM Bool} {te : EM D} {Q : VK} (hjs : ∀ j ∈ js, j ∈ vs) (h : tF L Wx (eLc it vs g tt te) σ H Q) : tLc (tI L Wx it) (gD L js g) (tB' L W0 tt) (tE L W0 te) vs σ H Q := by
  obtain ⟨B, W, ρ, R, q⟩ := h
  refine ⟨B, W, ρ, R, M.wp_mono (fun r p => p.imp fun xs ρ1 W1 H1 S1 R1 z J hJ D hD => ?_) (wp_seqE q)⟩
  split at z
  case isFalse => exact z.elim
  case isTrue hsz =>
    obtain ⟨RD, SD, nB⟩ := R1.newB (o := .lst []) hD
    have z : (lcRest vs g tt te [] xs ρ1).wp (PostE L B Wx W1 H1 σ _) := z
    refine ⟨fun i m H' => m = xs.length - i ∧ ∃ W' ρ' accd accv, Rel L (fun b => B b ∨ b = D) W' H' (L2.wipe σ vs) (wipeR ρ' vs) ∧ Tr W1 H1 W' H' ∧ H' D = some (.lst accv) ∧ RepL L W' H' accd accv ∧ accd.length ≤ i ∧
      (lcRest vs g tt te accd (xs.drop i) ρ').wp (PostE L B Wx W' H' σ _), ⟨_, rfl, W1, ρ1, [], [], RD.wipe vs, SD.tr, upd_same, rfl, Nat.le_refl _, M.wp_mono (fun r p => p.from SD) z⟩, ?_⟩
    rintro i m H' ⟨hm, W', ρ', accd, accv, R', T', hacc, racc, lacc, q'⟩
    by_cases hi : i < xs.length
    · have hx : xs[i]? = some xs[i] := List.getElem?_eq_getElem hi
      rw [List.drop_eq_getElem_cons hi] at q'
      obtain ⟨h1, h2⟩ := hJ.go i _ W' H' T' hx
      cases e : g xs[i] (wipeR ρ' vs) with
      | none =>
        unfold lcRest at q'
        simp only [lcGo, e] at q'
        exact q'.elim
      | some ρ2 =>
        rw [lcRest_cons e] at q'
        refine .inr ⟨h1, fun H3 => ∃ W3 ρ3 accd accv, Rel L (fun b => B b ∨ b = D) W3 H3 (L2.wipe σ vs) (wipeR ρ3 vs) ∧ Tr W1 H1 W3 H3 ∧ H3 D = some (.lst accv) ∧ RepL L W3 H3 accd accv ∧ accd.length ≤ i + 1 ∧
          (lcRest vs g tt te accd (xs.drop (i + 1)) ρ3).wp (PostE L B Wx W3 H3 σ _), fun H3 h3 => ⟨xs.length - (i + 1), by omega, rfl, h3⟩, fun x H2 y => ?_⟩
        obtain ⟨sm, rx⟩ := h2 x H2 y
        obtain ⟨R2, S2⟩ := R'.same sm
        refine ⟨_, W', _, xs[i], ρ2, R2, rx, e, fun σ4 R4 hl4 hj4 => ?_⟩
        have hw : L2.wipe σ4 vs = L2.wipe σ vs := wipe_of hl4 hj4 hjs
        refine ⟨hw, _, W', ρ2, R4, M.wp_mono (fun r p => p.imp fun b ρ3 W3 H3 S3 R3 z3 => ?_) (wp_seqN (B' := fun b => B b ∨ b = D) (σ' := σ4) (fun b h => .inl h) (M.wp_mono (fun r p => p.from ⟨S2.tr, fun b h => S2.kb b (.inl h)⟩) q'))⟩
        have S23 := S2.trans S3
        have hD3 : H3 D = some (.lst accv) := (S23.kb D (.inr rfl)).trans hacc
        cases b with
        | false =>
          simp only [Bool.false_eq_true, if_false] at z3 ⊢
          refine ⟨W3, ρ3, accd, accv, ?_, T'.trans S23.tr, hD3, racc.tr S23.tr, Nat.le_succ_of_le lacc, z3⟩
          have := R3.wipe vs
          rw [hw] at this
          exact this
        | true =>
          simp only [if_true] at z3 ⊢
          refine ⟨_, W3, ρ3, R3, M.wp_mono (fun r p => p.imp fun d ρ5 W5 H5 S5 R5 z5 v rv => ?_) (wp_seqN (B' := fun b => B b ∨ b = D) (σ' := σ4) (fun b h => .inl h) z3)⟩
          have hD5 : H5 D = some (.lst accv) := (S5.kb D (.inr rfl)).trans hD3
          have S25 := S23.trans S5
          obtain ⟨R6, S6⟩ := R5.updB (o := .lst (accv ++ [v])) (by rw [hD5]; trivial) nB
          refine ⟨accv, hD5, ?_, W5, ρ5, accd ++ [d], accv ++ [v], ?_, T'.trans (S25.tr.trans S6.tr), upd_same, ?_, ?_, M.wp_mono (fun r p => p.from S6) z5⟩
          · rw [racc.length, sz_eq]
            exact Nat.lt_of_lt_of_le (Nat.lt_of_le_of_lt lacc hi) hsz
          · have := R6.wipe vs
            rw [hw] at this
            exact this
          · exact ((racc.tr S25.tr).tr S6.tr).append ⟨v, [], rfl, rv.tr S6.tr, rfl⟩
          · rw [List.length_append]
            exact Nat.succ_le_succ lacc
    · have hl : xs.length ≤ i := Nat.le_of_not_lt hi
      rw [List.drop_eq_nil_of_le hl] at q'
      have q' : (retE (Tag.lst, accd ++ []) (wipeR ρ' vs)).wp (PostE L B Wx W' H' σ _) := q'
      rw [List.append_nil] at q'
      have R8 := R'.unwipe0
      refine .inl ⟨hJ.stop i W' H' T' hl, ?_⟩
      exact q' W' H' Stp.refl (R8.lessB fun b h => .inl h) D accv nB R8 hacc racc
theorem f_lc {elt tg iter : Expr} {ifs : List Expr} {scope : Scope} {own : List (Str × Nat)} {js : List Nat} {it : EM (List D)} {g : GM} {tt : EM Bool} {te : EM D} (hc : X.calm = true) (hN : X.N.Nodup) (hi : PI X tg iter (tI L Wx it)) (ok : blkC X.N X.env.scope scope own = true) (hjs : ∀ j ∈ js, j ∈ own.map (·.2))
    (hg : ∀ (s : Shared) (H : Hp) (C : Addr) (cl : List (Str × Addr)) (fp : List Addr), PG (X.blk s H scope (compEnvC scope cl C X.env) fp) tg (gD L js g))
    (ht : ∀ (s : Shared) (H : Hp) (C : Addr) (cl : List (Str × Addr)) (fp : List Addr), PTs (X.blk s H scope (compEnvC scope cl C X.env) fp) ifs (tB' L W0 tt))
    (he : ∀ (s : Shared) (H : Hp) (C : Addr) (cl : List (Str × Addr)) (fp : List Addr), PE (X.blk s H scope (compEnvC scope cl C X.env) fp) elt (tE L W0 te)) (hs : ∀ x, foldedSetIterable iter X.env x = pure x := by intro _; rfl) :
    PE X (.ListComp elt [⟨tg, iter, ifs, 0⟩] scope pos) (tF L Wx (eLc it (own.map (·.2)) g tt te)) :=
  PE.weak (pe_lc hc hN hi (blkOk_by ok) hg ht he hs) fun _ _ _ q => lc_of hjs q
/-- name = [..] on one line -/
theorem s_lc {i : Nat} {y : Str} {py spos : Pos} {elt tg iter : Expr} {ifs : List Expr} {scope : Scope} {own : List (Str × Nat)} {js : List Nat} {it : EM (List D)} {g : GM} {tt : EM Bool} {te : EM D} (hc : X.calm = true) (hN : X.N.Nodup) (hy : X.N[i]? = some y) (hyl : X.env.scope.names.lookup y = some .local)
    (hsw : swapsWith (.ListComp elt [⟨tg, iter, ifs, 0⟩] scope pos) (some (.Name y py)) spos.line X.env = pure true) (hi : PI X tg iter (tI L Wx it)) (ok : blkC X.N X.env.scope scope own = true) (hjs : ∀ j ∈ js, j ∈ own.map (·.2))
    (hg : ∀ (s : Shared) (H : Hp) (C : Addr) (cl : List (Str × Addr)) (fp : List Addr), PG (X.blk s H scope (compEnvC scope cl C X.env) fp) tg (gD L js g))
    (ht : ∀ (s : Shared) (H : Hp) (C : Addr) (cl : List (Str × Addr)) (fp : List Addr), PTs (X.blk s H scope (compEnvC scope cl C X.env) fp) ifs (tB' L W0 tt))
    (he : ∀ (s : Shared) (H : Hp) (C : Addr) (cl : List (Str × Addr)) (fp : List Addr), PE (X.blk s H scope (compEnvC scope cl C X.env) fp) elt (tE L W0 te)) (hs : ∀ x, foldedSetIterable iter X.env x = pure x := by intro _; rfl) :
    PS X (.Assign [.Name y py] (.ListComp elt [⟨tg, iter, ifs, 0⟩] scope pos) spos) (tS L Wx (sNew i (eLc it (own.map (·.2)) g tt te))) :=
  PS.weak (ps_setLc hc hN hy hyl hsw hi (blkOk_by ok) hg ht he hs) fun _ _ _ q => lc_of hjs (new_of q)
end
end DL

/-! D11: comprehensions of two generators, dict comprehensions. -/
namespace DL
open PySem PySem.Spec PyProof.Rows L2 PySem.W
theorem wipeR_at {ρ : Rho} {j : Nat} : ∀ (vs : List Nat), (wipeR ρ vs)[j]? = if j ∈ vs then ρ[j]?.map (fun _ => Slot.none) else ρ[j]?
  | [] => by simp [wipeR]
  | v :: vs => by
    show ((wipeR ρ vs).set v Slot.none)[j]? = _
    by_cases hj : v = j
    · subst hj
      rw [List.getElem?_set_self']
      simp only [List.mem_cons, true_or, if_true]
      rw [wipeR_at vs]
      split
      · cases ρ[v]? <;> rfl
      · cases ρ[v]? <;> rfl
    · rw [List.getElem?_set_ne hj, wipeR_at vs]
      have : (j ∈ v :: vs) ↔ j ∈ vs := by simp [Ne.symm hj]
      simp only [this]
theorem wipeR_sub {ρ : Rho} {vs vs1 : List Nat} (h : ∀ j ∈ vs1, j ∈ vs) : wipeR (wipeR ρ vs1) vs = wipeR ρ vs := by
  refine List.ext_getElem? fun j => ?_
  rw [wipeR_at, wipeR_at, wipeR_at]
  by_cases hj : j ∈ vs
  · rw [if_pos hj, if_pos hj]
    split
    · cases ρ[j]? <;> rfl
    · rfl
  · rw [if_neg hj, if_neg hj, if_neg fun z => hj (h j z)]
theorem wipe_sub {σ : L2.St} {vs vs1 : List Nat} (h : ∀ j ∈ vs1, j ∈ vs) : L2.wipe (L2.wipe σ vs1) vs = L2.wipe σ vs := by
  refine List.ext_getElem? fun j => ?_
  rw [wipe_get, wipe_get, wipe_get]
  by_cases hj : j ∈ vs
  · rw [if_pos hj, if_pos hj]
    split
    · cases σ[j]? <;> rfl
    · rfl
  · rw [if_neg hj, if_neg hj, if_neg fun z => hj (h j z)]
section
variable {X : Cx} {L : Ly X.K} {Wx : WX} {B : Addr → Prop} {W W1 W' : WM} {H H1 H' : Hp} {σ : L2.St} {ρ ρ' : Rho} {pos : Pos}
theorem bindN_bindN {α β γ : Type} (m : M (ER α)) (f : α → Rho → M (ER β)) (g : β → Rho → M (ER γ)) : bindN (bindN m f) g = bindN m fun a ρ => bindN (f a ρ) g := by
  unfold bindN
  rw [M.bind_assoc]
  congr 1
  funext r
  cases r <;> rfl
theorem bindN_ret {α β : Type} (a : α) (ρ : Rho) (f : α → Rho → M (ER β)) : bindN (retE a ρ) f = f a ρ := rfl
theorem lc2_of {js js1 vs vs1 : List Nat} {it it1 : EM (List D)} {g g1 : GM} {tt tt1 : EM Bool} {te : EM D} {Q : VK} (hjs : ∀ j ∈ js, j ∈ vs) (hjs1 : ∀ j ∈ js1, j ∈ vs1) (hvs : ∀ j ∈ vs1, j ∈ vs) (h : tF L Wx (eLc2 it vs g tt it1 vs1 g1 tt1 te) σ H Q) :
    tLc2 (tI L Wx it) (gD L js g) (tB' L W0 tt) (tI L W0 it1) (gD L js1 g1) (tB' L W0 tt1) (tE L W0 te) vs vs1 σ H Q := by
  obtain ⟨B, W, ρ, R, q⟩ := h
  refine ⟨B, W, ρ, R, M.wp_mono (fun r p => p.imp fun xs ρ1 W1 H1 S1 R1 z J hJ Da hD => ?_) (wp_seqE q)⟩
  obtain ⟨RD, SD, nB⟩ := R1.newB (o := .lst []) hD
  generalize hfin : (fun (ys : List D) (ρ2 : Rho) => (retE (Tag.lst, ys) (wipeR ρ2 vs) : M (ER (Tag × List D)))) = fin at z
  refine ⟨fun i m H' => m = xs.length - i ∧ ∃ W' ρ' accd accv, Rel L (fun b => B b ∨ b = Da) W' H' (L2.wipe σ vs) (wipeR ρ' vs) ∧ Tr W1 H1 W' H' ∧ H' Da = some (.lst accv) ∧ RepL L W' H' accd accv ∧
    (bindN (lcOut vs g tt it1 vs1 g1 tt1 te (xs.drop i) ρ' accd) fin).wp (PostE L B Wx W' H' σ _), ⟨_, rfl, W1, ρ1, [], [], RD.wipe vs, SD.tr, upd_same, rfl, M.wp_mono (fun r p => p.from SD) z⟩, ?_⟩
  rintro i m H' ⟨hm, W', ρ', accd, accv, R', T', hacc, racc, q'⟩
  by_cases hi : i < xs.length
  · have hx : xs[i]? = some xs[i] := List.getElem?_eq_getElem hi
    rw [List.drop_eq_getElem_cons hi] at q'
    obtain ⟨h1, h2⟩ := hJ.go i _ W' H' T' hx
    cases e : g xs[i] (wipeR ρ' vs) with
    | none =>
      simp only [lcOut, e] at q'
      exact q'.elim
    | some ρ2 =>
      simp only [lcOut, e] at q'
      rw [bindN_bindN] at q'
      refine .inr ⟨h1, fun H3 => ∃ W3 ρ3 accd accv, Rel L (fun b => B b ∨ b = Da) W3 H3 (L2.wipe σ vs) (wipeR ρ3 vs) ∧ Tr W1 H1 W3 H3 ∧ H3 Da = some (.lst accv) ∧ RepL L W3 H3 accd accv ∧
        (bindN (lcOut vs g tt it1 vs1 g1 tt1 te (xs.drop (i + 1)) ρ3 accd) fin).wp (PostE L B Wx W3 H3 σ _), fun H3 h3 => ⟨xs.length - (i + 1), by omega, rfl, h3⟩, fun x H2 y => ?_⟩
      obtain ⟨sm, rx⟩ := h2 x H2 y
      obtain ⟨R2, S2⟩ := R'.same sm
      refine ⟨_, W', _, xs[i], ρ2, R2, rx, e, fun σ4 R4 hl4 hj4 => ?_⟩
      have hw : L2.wipe σ4 vs = L2.wipe σ vs := wipe_of hl4 hj4 hjs
      refine ⟨hw, _, W', ρ2, R4, M.wp_mono (fun r p => p.imp fun b ρ3 W3 H3 S3 R3 z3 => ?_) (wp_seqN (B' := fun b => B b ∨ b = Da) (σ' := σ4) (fun b h => .inl h) (M.wp_mono (fun r p => p.from ⟨S2.tr, fun b h => S2.kb b (.inl h)⟩) q'))⟩
      have S23 := S2.trans S3
      have hD3 : H3 Da = some (.lst accv) := (S23.kb Da (.inr rfl)).trans hacc
      cases b with
      | false =>
        simp only [Bool.false_eq_true, if_false] at z3 ⊢
        refine ⟨W3, ρ3, accd, accv, ?_, T'.trans S23.tr, hD3, racc.tr S23.tr, z3⟩
        have := R3.wipe vs
        rw [hw] at this
        exact this
      | true =>
        simp only [if_true] at z3 ⊢
        rw [bindN_bindN] at z3
        refine ⟨_, W3, ρ3, R3, M.wp_mono (fun r p => p.imp fun ys ρ5 W5 H5 S5 R5 z5 J1 hJ1 => ?_) (wp_seqN (B' := fun b => B b ∨ b = Da) (σ' := σ4) (fun b h => .inl h) z3)⟩
        have S25 := S23.trans S5
        have hD5 : H5 Da = some (.lst accv) := (S5.kb Da (.inr rfl)).trans hD3
        rw [bindN_bindN] at z5
        generalize hnx : (fun (a : List D) (ρ : Rho) => bindN (lcOut vs g tt it1 vs1 g1 tt1 te (List.drop (i + 1) xs) ρ a) fin) = nx at z5
        refine ⟨fun j k H6 => k = ys.length - j ∧ ∃ W6 ρ6 accd accv, Rel L (fun b => B b ∨ b = Da) W6 H6 (L2.wipe σ4 vs1) (wipeR ρ6 vs1) ∧ Tr W5 H5 W6 H6 ∧ H6 Da = some (.lst accv) ∧ RepL L W6 H6 accd accv ∧
          (bindN (lcIn vs1 g1 tt1 te (ys.drop j) ρ6 accd) nx).wp (PostE L B Wx W6 H6 σ _), ⟨_, rfl, W5, ρ5, accd, accv, R5.wipe vs1, Tr.refl, hD5, racc.tr S25.tr, z5⟩, ?_⟩
        rintro j k H6 ⟨hk, W6, ρ6, accd6, accv6, R6, T6, hD6, racc6, q6⟩
        by_cases hjl : j < ys.length
        · have hy : ys[j]? = some ys[j] := List.getElem?_eq_getElem hjl
          rw [List.drop_eq_getElem_cons hjl] at q6
          obtain ⟨g1', g2'⟩ := hJ1.go j _ W6 H6 T6 hy
          cases e1 : g1 ys[j] (wipeR ρ6 vs1) with
          | none =>
            simp only [lcIn, e1] at q6
            exact q6.elim
          | some ρ7 =>
            simp only [lcIn, e1] at q6
            rw [bindN_bindN] at q6
            refine .inr ⟨g1', fun H8 => ∃ W8 ρ8 accd accv, Rel L (fun b => B b ∨ b = Da) W8 H8 (L2.wipe σ4 vs1) (wipeR ρ8 vs1) ∧ Tr W5 H5 W8 H8 ∧ H8 Da = some (.lst accv) ∧ RepL L W8 H8 accd accv ∧
              (bindN (lcIn vs1 g1 tt1 te (ys.drop (j + 1)) ρ8 accd) nx).wp (PostE L B Wx W8 H8 σ _), fun H8 h8 => ⟨ys.length - (j + 1), by omega, rfl, h8⟩, fun x H7 y => ?_⟩
            obtain ⟨sm7, rx7⟩ := g2' x H7 y
            obtain ⟨R7, S7⟩ := R6.same sm7
            refine ⟨_, W6, _, ys[j], ρ7, R7, rx7, e1, fun σ8 R8 hl8 hj8 => ?_⟩
            have hw8 : L2.wipe σ8 vs1 = L2.wipe σ4 vs1 := wipe_of hl8 hj8 hjs1
            refine ⟨hw8, _, W6, ρ7, R8, M.wp_mono (fun r p => p.imp fun b ρ9 W9 H9 S9 R9 z9 => ?_) (wp_seqN (B' := fun b => B b ∨ b = Da) (σ' := σ8) (fun b h => .inl h) (M.wp_mono (fun r p => p.from ⟨S7.tr, fun b h => S7.kb b (.inl h)⟩) q6))⟩
            have S79 := S7.trans S9
            have hD9 : H9 Da = some (.lst accv6) := (S79.kb Da (.inr rfl)).trans hD6
            cases b with
            | false =>
              simp only [Bool.false_eq_true, if_false] at z9 ⊢
              refine ⟨W9, ρ9, accd6, accv6, ?_, T6.trans S79.tr, hD9, racc6.tr S79.tr, z9⟩
              have := R9.wipe vs1
              rw [hw8] at this
              exact this
            | true =>
              simp only [if_true] at z9 ⊢
              rw [bindN_bindN] at z9
              refine ⟨_, W9, ρ9, R9, M.wp_mono (fun r p => p.imp fun d ρa Wa Ha Sa Ra za v rv => ?_) (wp_seqN (B' := fun b => B b ∨ b = Da) (σ' := σ8) (fun b h => .inl h) z9)⟩
              have hDa' : Ha Da = some (.lst accv6) := (Sa.kb Da (.inr rfl)).trans hD9
              have S7a := S79.trans Sa
              split at za
              case isFalse => exact za.elim
              case isTrue hlt =>
                obtain ⟨Rb, Sb⟩ := Ra.updB (o := .lst (accv6 ++ [v])) (by rw [hDa']; trivial) nB
                refine ⟨accv6, hDa', ?_, Wa, ρa, accd6 ++ [d], accv6 ++ [v], ?_, T6.trans (S7a.tr.trans Sb.tr), upd_same, ?_, M.wp_mono (fun r p => p.from Sb) za⟩
                · rw [racc6.length, sz_eq]
                  exact hlt
                · have := Rb.wipe vs1
                  rw [hw8] at this
                  exact this
                · exact ((racc6.tr S7a.tr).tr Sb.tr).append ⟨v, [], rfl, rv.tr Sb.tr, rfl⟩
        · have hl : ys.length ≤ j := Nat.le_of_not_lt hjl
          rw [List.drop_eq_nil_of_le hl] at q6
          have q6 : (nx accd6 ρ6).wp (PostE L B Wx W6 H6 σ _) := q6
          refine .inl ⟨hJ1.stop j W6 H6 T6 hl, ?_⟩
          rw [← hnx] at q6
          have Rw := R6.wipe vs
          rw [wipe_sub hvs, wipeR_sub hvs, hw] at Rw
          exact ⟨W6, ρ6, accd6, accv6, Rw, (T'.trans S25.tr).trans T6, hD6, racc6, q6⟩
  · have hl : xs.length ≤ i := Nat.le_of_not_lt hi
    rw [List.drop_eq_nil_of_le hl] at q'
    have q' : (fin accd ρ').wp (PostE L B Wx W' H' σ _) := q'
    rw [← hfin] at q'
    have R8 := R'.unwipe0
    refine .inl ⟨hJ.stop i W' H' T' hl, ?_⟩
    exact q' W' H' Stp.refl (R8.lessB fun b h => .inl h) Da accv nB R8 hacc racc
theorem f_lc2 {elt tg iter tg1 iter1 : Expr} {ifs ifs1 : List Expr} {scope : Scope} {own : List (Str × Nat)} {js js1 vs1 : List Nat} {it it1 : EM (List D)} {g g1 : GM} {tt tt1 : EM Bool} {te : EM D} (hc : X.calm = true) (hN : X.N.Nodup) (hi : PI X tg iter (tI L Wx it)) (ok : blkC X.N X.env.scope scope own = true)
    (hjs : ∀ j ∈ js, j ∈ own.map (·.2)) (hjs1 : ∀ j ∈ js1, j ∈ vs1) (hvs : ∀ j ∈ vs1, j ∈ own.map (·.2))
    (hg : ∀ (s : Shared) (H : Hp) (C : Addr) (cl : List (Str × Addr)) (fp : List Addr), PG (X.blk s H scope (compEnvC scope cl C X.env) fp) tg (gD L js g))
    (ht : ∀ (s : Shared) (H : Hp) (C : Addr) (cl : List (Str × Addr)) (fp : List Addr), PTs (X.blk s H scope (compEnvC scope cl C X.env) fp) ifs (tB' L W0 tt))
    (hi1 : ∀ (s : Shared) (H : Hp) (C : Addr) (cl : List (Str × Addr)) (fp : List Addr), PI (X.blk s H scope (compEnvC scope cl C X.env) fp) tg1 iter1 (tI L W0 it1))
    (hg1 : ∀ (s : Shared) (H : Hp) (C : Addr) (cl : List (Str × Addr)) (fp : List Addr), PG (X.blk s H scope (compEnvC scope cl C X.env) fp) tg1 (gD L js1 g1))
    (ht1 : ∀ (s : Shared) (H : Hp) (C : Addr) (cl : List (Str × Addr)) (fp : List Addr), PTs (X.blk s H scope (compEnvC scope cl C X.env) fp) ifs1 (tB' L W0 tt1))
    (he : ∀ (s : Shared) (H : Hp) (C : Addr) (cl : List (Str × Addr)) (fp : List Addr), PE (X.blk s H scope (compEnvC scope cl C X.env) fp) elt (tE L W0 te)) (hs : ∀ x, foldedSetIterable iter X.env x = pure x := by intro _; rfl) (hs1 : ∀ env x, foldedSetIterable iter1 env x = pure x := by intro _ _; rfl) :
    PE X (.ListComp elt [⟨tg, iter, ifs, 0⟩, ⟨tg1, iter1, ifs1, 0⟩] scope pos) (tF L Wx (eLc2 it (own.map (·.2)) g tt it1 vs1 g1 tt1 te)) :=
  PE.weak (pe_lc2 hc hN hi (blkOk_by ok) hvs hg ht hi1 hg1 ht1 he hs hs1) fun _ _ _ q => lc2_of hjs hjs1 hvs q
theorem s_lc2 {i : Nat} {y : Str} {py spos : Pos} {elt tg iter tg1 iter1 : Expr} {ifs ifs1 : List Expr} {scope : Scope} {own : List (Str × Nat)} {js js1 vs1 : List Nat} {it it1 : EM (List D)} {g g1 : GM} {tt tt1 : EM Bool} {te : EM D} (hc : X.calm = true) (hN : X.N.Nodup) (hy : X.N[i]? = some y) (hyl : X.env.scope.names.lookup y = some .local)
    (hsw : swapsWith (.ListComp elt [⟨tg, iter, ifs, 0⟩, ⟨tg1, iter1, ifs1, 0⟩] scope pos) (some (.Name y py)) spos.line X.env = pure true) (hi : PI X tg iter (tI L Wx it)) (ok : blkC X.N X.env.scope scope own = true)
    (hjs : ∀ j ∈ js, j ∈ own.map (·.2)) (hjs1 : ∀ j ∈ js1, j ∈ vs1) (hvs : ∀ j ∈ vs1, j ∈ own.map (·.2))
    (hg : ∀ (s : Shared) (H : Hp) (C : Addr) (cl : List (Str × Addr)) (fp : List Addr), PG (X.blk s H scope (compEnvC scope cl C X.env) fp) tg (gD L js g))
    (ht : ∀ (s : Shared) (H : Hp) (C : Addr) (cl : List (Str × Addr)) (fp : List Addr), PTs (X.blk s H scope (compEnvC scope cl C X.env) fp) ifs (tB' L W0 tt))
    (hi1 : ∀ (s : Shared) (H : Hp) (C : Addr) (cl : List (Str × Addr)) (fp : List Addr), PI (X.blk s H scope (compEnvC scope cl C X.env) fp) tg1 iter1 (tI L W0 it1))
    (hg1 : ∀ (s : Shared) (H : Hp) (C : Addr) (cl : List (Str × Addr)) (fp : List Addr), PG (X.blk s H scope (compEnvC scope cl C X.env) fp) tg1 (gD L js1 g1))
    (ht1 : ∀ (s : Shared) (H : Hp) (C : Addr) (cl : List (Str × Addr)) (fp : List Addr), PTs (X.blk s H scope (compEnvC scope cl C X.env) fp) ifs1 (tB' L W0 tt1))
    (he : ∀ (s : Shared) (H : Hp) (C : Addr) (cl : List (Str × Addr)) (fp : List Addr), PE (X.blk s H scope (compEnvC scope cl C X.env) fp) elt (tE L W0 te)) (hs : ∀ x, foldedSetIterable iter X.env x = pure x := by intro _; rfl) (hs1 : ∀ env x, foldedSetIterable iter1 env x = pure x := by intro _ _; rfl) :
    PS X (.Assign [.Name y py] (.ListComp elt [⟨tg, iter, ifs, 0⟩, ⟨tg1, iter1, ifs1, 0⟩] scope pos) spos) (tS L Wx (sNew i (eLc2 it (own.map (·.2)) g tt it1 vs1 g1 tt1 te))) :=
  PS.weak (ps_setLc2 hc hN hy hyl hsw hi (blkOk_by ok) hvs hg ht hi1 hg1 ht1 he hs hs1) fun _ _ _ q => lc2_of hjs hjs1 hvs (new_of q)
end
/-! ### a dict's keys and parts -/
section
variable {κ : Type} [DecidableEq κ] {α : Type}
theorem repl_length : ∀ (ks : List κ) (xs : List α) (k : κ) (v : α), (repl ks xs k v).length = xs.length
  | [], xs, k, v => by cases xs <;> rfl
  | _ :: _, [], _, _ => rfl
  | k' :: ks, x :: xs, k, v => by simp [repl, repl_length ks xs k v]
theorem zip_repl : ∀ (ks : List κ) (vs : List V) (k : κ) (v : V), (ks.zip vs).map (fun kv => if kv.1 = k then (kv.1, v) else kv) = ks.zip (repl ks vs k v)
  | [], vs, k, v => by cases vs <;> rfl
  | _ :: _, [], _, _ => rfl
  | k' :: ks, x :: xs, k, v => by
    simp only [List.zip_cons_cons, List.map_cons, repl, zip_repl ks xs k v]
    split <;> rfl
theorem zip_any : ∀ (ks : List κ) (vs : List V) (k : κ), ks.length = vs.length → ((ks.zip vs).any fun kv => decide (kv.1 = k)) = decide (k ∈ ks)
  | [], vs, k, h => by cases vs <;> simp
  | _ :: _, [], _, h => by simp at h
  | k' :: ks, x :: xs, k, h => by
    rw [List.zip_cons_cons, List.any_cons, zip_any ks xs k (by simpa using h)]
    by_cases e : k' = k
    · subst e; simp
    · have : k ≠ k' := fun z => e z.symm
      simp [e, this]
theorem putK_zip {ks : List κ} {vs : List V} {k : κ} {v : V} (h : ks.length = vs.length) : putK (ks.zip vs) k v = (putKs ks k).zip (putDs ks vs k v) ∧ (putKs ks k).length = (putDs ks vs k v).length := by
  unfold putK putKs putDs
  rw [zip_any ks vs k h]
  by_cases e : k ∈ ks
  · simp only [e, decide_true, if_true]
    exact ⟨zip_repl ks vs k v, by rw [repl_length]; exact h⟩
  · simp only [e, decide_false, Bool.false_eq_true, if_false]
    exact ⟨by rw [List.zip_append h]; rfl, by simp [h]⟩
theorem RepL.repl {K : PySem.W.Frag} {L : Ly K} {W : WM} {H : Hp} {d : D} {v : V} (h : Rep L W H d v) : ∀ (ks : List κ) {ds : List D} {vs : List V} (k : κ), RepL L W H ds vs → RepL L W H (repl ks ds k d) (repl ks vs k v)
  | [], [], vs, k, r => by rw [show vs = [] from r]; rfl
  | [], _ :: _, vs, k, r => by
    obtain ⟨v', r', rfl, h1, h2⟩ := r
    exact ⟨v', r', rfl, h1, h2⟩
  | _ :: _, [], vs, k, r => by rw [show vs = [] from r]; rfl
  | k' :: ks, d' :: ds, vs, k, r => by
    obtain ⟨v', r', rfl, h1, h2⟩ := r
    refine ⟨_, _, rfl, ?_, RepL.repl h ks k h2⟩
    by_cases e : k' = k
    · simp only [e, if_true]; exact h
    · simp only [e, if_false]; exact h1
theorem RepL.putDs {K : PySem.W.Frag} {L : Ly K} {W : WM} {H : Hp} {ks : List κ} {ds : List D} {vs : List V} {k : κ} {d : D} {v : V} (r : RepL L W H ds vs) (h : Rep L W H d v) : RepL L W H (putDs ks ds k d) (putDs ks vs k v) := by
  unfold DL.putDs
  split
  · exact RepL.repl h ks k r
  · exact r.append ⟨v, [], rfl, h, rfl⟩
end
/-! ### dict comprehensions -/
section
variable {X : Cx} {L : Ly X.K} {Wx : WX} {B : Addr → Prop} {W W1 W' : WM} {H H1 H' : Hp} {σ : L2.St} {ρ ρ' : Rho} {pos : Pos}
theorem dc_of {js vs : List Nat} {it : EM (List D)} {g : GM} {tt : EM Bool} {tk tv : EM D} {Q : VK} (hjs : ∀ j ∈ js, j ∈ vs) (h : tF L Wx (eDc it vs g tt tk tv) σ H Q) : tDc (tI L Wx it) (gD L js g) (tB' L W0 tt) (tE L W0 tk) (tE L W0 tv) vs σ H Q := by
  obtain ⟨B, W, ρ, R, q⟩ := h
  refine ⟨B, W, ρ, R, M.wp_mono (fun r p => p.imp fun xs ρ1 W1 H1 S1 R1 z J hJ Da hD => ?_) (wp_seqE q)⟩
  obtain ⟨RD, SD, nB⟩ := R1.newB (o := .dK []) hD
  generalize hfin : (fun (p : List Key × List D) (ρ2 : Rho) => (retE (Tag.dct p.1, p.2) (wipeR ρ2 vs) : M (ER (Tag × List D)))) = fin at z
  refine ⟨fun i m H' => m = xs.length - i ∧ ∃ W' ρ' ks accd accv, Rel L (fun b => B b ∨ b = Da) W' H' (L2.wipe σ vs) (wipeR ρ' vs) ∧ Tr W1 H1 W' H' ∧ ks.length = accv.length ∧ H' Da = some (.dK (ks.zip accv)) ∧ RepL L W' H' accd accv ∧
    (bindN (dcGo vs g tt tk tv (xs.drop i) ρ' ks accd) fin).wp (PostE L B Wx W' H' σ _), ⟨_, rfl, W1, ρ1, [], [], [], RD.wipe vs, SD.tr, rfl, upd_same, rfl, M.wp_mono (fun r p => p.from SD) z⟩, ?_⟩
  rintro i m H' ⟨hm, W', ρ', ks, accd, accv, R', T', hl, hacc, racc, q'⟩
  by_cases hi : i < xs.length
  · have hx : xs[i]? = some xs[i] := List.getElem?_eq_getElem hi
    rw [List.drop_eq_getElem_cons hi] at q'
    obtain ⟨h1, h2⟩ := hJ.go i _ W' H' T' hx
    cases e : g xs[i] (wipeR ρ' vs) with
    | none =>
      simp only [dcGo, e] at q'
      exact q'.elim
    | some ρ2 =>
      simp only [dcGo, e] at q'
      rw [bindN_bindN] at q'
      refine .inr ⟨h1, fun H3 => ∃ W3 ρ3 ks accd accv, Rel L (fun b => B b ∨ b = Da) W3 H3 (L2.wipe σ vs) (wipeR ρ3 vs) ∧ Tr W1 H1 W3 H3 ∧ ks.length = accv.length ∧ H3 Da = some (.dK (ks.zip accv)) ∧ RepL L W3 H3 accd accv ∧
        (bindN (dcGo vs g tt tk tv (xs.drop (i + 1)) ρ3 ks accd) fin).wp (PostE L B Wx W3 H3 σ _), fun H3 h3 => ⟨xs.length - (i + 1), by omega, rfl, h3⟩, fun x H2 y => ?_⟩
      obtain ⟨sm, rx⟩ := h2 x H2 y
      obtain ⟨R2, S2⟩ := R'.same sm
      refine ⟨_, W', _, xs[i], ρ2, R2, rx, e, fun σ4 R4 hl4 hj4 => ?_⟩
      have hw : L2.wipe σ4 vs = L2.wipe σ vs := wipe_of hl4 hj4 hjs
      refine ⟨hw, _, W', ρ2, R4, M.wp_mono (fun r p => p.imp fun b ρ3 W3 H3 S3 R3 z3 => ?_) (wp_seqN (B' := fun b => B b ∨ b = Da) (σ' := σ4) (fun b h => .inl h) (M.wp_mono (fun r p => p.from ⟨S2.tr, fun b h => S2.kb b (.inl h)⟩) q'))⟩
      have S23 := S2.trans S3
      have hD3 := (S23.kb Da (.inr rfl)).trans hacc
      cases b with
      | false =>
        simp only [Bool.false_eq_true, if_false] at z3 ⊢
        refine ⟨W3, ρ3, ks, accd, accv, ?_, T'.trans S23.tr, hl, hD3, racc.tr S23.tr, z3⟩
        have := R3.wipe vs
        rw [hw] at this
        exact this
      | true =>
        simp only [if_true] at z3 ⊢
        rw [bindN_bindN] at z3
        refine ⟨_, W3, ρ3, R3, M.wp_mono (fun r p => p.imp fun d ρ5 W5 H5 S5 R5 z5 v rv => ?_) (wp_seqN (B' := fun b => B b ∨ b = Da) (σ' := σ4) (fun b h => .inl h) z3)⟩
        rw [bindN_bindN] at z5
        refine ⟨_, W5, ρ5, R5, M.wp_mono (fun r p => p.imp fun d7 ρ7 W7 H7 S7 R7 z7 v7 rv7 => ?_) (wp_seqN (B' := fun b => B b ∨ b = Da) (σ' := σ4) (fun b h => .inl h) z5)⟩
        have S27 := (S23.trans S5).trans S7
        have hD7 := (S27.kb Da (.inr rfl)).trans hacc
        cases ek : dKey d with
        | none => rw [ek] at z7; exact z7.elim
        | some k =>
          rw [ek] at z7
          simp only at z7
          split at z7
          case isFalse => exact z7.elim
          case isTrue hlt =>
            obtain ⟨e1, e2⟩ := putK_zip (k := k) (v := v7) hl
            obtain ⟨R6, S6⟩ := R7.updB (o := .dK (putK (ks.zip accv) k v7)) (by rw [hD7]; trivial) nB
            refine ⟨ks.zip accv, k, dKey_kV ek (.inl rv), hD7, ?_, W7, ρ7, putKs ks k, putDs ks accd k d7, putDs ks accv k v7, ?_, T'.trans (S27.tr.trans S6.tr), e2, ?_, ?_, M.wp_mono (fun r p => p.from S6) z7⟩
            · rw [List.length_zip, sz_eq]; omega
            · have := R6.wipe vs
              rw [hw] at this
              exact this
            · rw [upd_same, e1]
            · exact ((racc.tr S27.tr).tr S6.tr).putDs (rv7.tr S6.tr)
  · have hl' : xs.length ≤ i := Nat.le_of_not_lt hi
    rw [List.drop_eq_nil_of_le hl'] at q'
    have q' : (fin (ks, accd) ρ').wp (PostE L B Wx W' H' σ _) := q'
    rw [← hfin] at q'
    have R8 := R'.unwipe0
    refine .inl ⟨hJ.stop i W' H' T' hl', ?_⟩
    exact q' W' H' Stp.refl (R8.lessB fun b h => .inl h) Da accv nB R8 ⟨hl, hacc⟩ racc
theorem f_dc {kx vx tg iter : Expr} {ifs : List Expr} {scope : Scope} {own : List (Str × Nat)} {js : List Nat} {it : EM (List D)} {g : GM} {tt : EM Bool} {tk tv : EM D} (hc : X.calm = true) (hN : X.N.Nodup) (hi : PI X tg iter (tI L Wx it)) (ok : blkC X.N X.env.scope scope own = true) (hjs : ∀ j ∈ js, j ∈ own.map (·.2))
    (hg : ∀ (s : Shared) (H : Hp) (C : Addr) (cl : List (Str × Addr)) (fp : List Addr), PG (X.blk s H scope (compEnvC scope cl C X.env) fp) tg (gD L js g))
    (ht : ∀ (s : Shared) (H : Hp) (C : Addr) (cl : List (Str × Addr)) (fp : List Addr), PTs (X.blk s H scope (compEnvC scope cl C X.env) fp) ifs (tB' L W0 tt))
    (hk : ∀ (s : Shared) (H : Hp) (C : Addr) (cl : List (Str × Addr)) (fp : List Addr), PE (X.blk s H scope (compEnvC scope cl C X.env) fp) kx (tE L W0 tk))
    (he : ∀ (s : Shared) (H : Hp) (C : Addr) (cl : List (Str × Addr)) (fp : List Addr), PE (X.blk s H scope (compEnvC scope cl C X.env) fp) vx (tE L W0 tv)) (hs : ∀ x, foldedSetIterable iter X.env x = pure x := by intro _; rfl) :
    PE X (.DictComp kx vx [⟨tg, iter, ifs, 0⟩] scope pos) (tF L Wx (eDc it (own.map (·.2)) g tt tk tv)) :=
  PE.weak (pe_dc hc hN hi (blkOk_by ok) hg ht hk he hs) fun _ _ _ q => dc_of hjs q
end
end DL

/-! D12: own lists, dicts and objects are written. -/
namespace DL
open PySem PySem.Spec PyProof.Rows L2 PySem.W
section
variable {X : Cx} {L : Ly X.K} {Wx : WX} {B : Addr → Prop} {W W1 W' : WM} {H H1 H' : Hp} {σ : L2.St} {ρ ρ' : Rho} {pos : Pos}
theorem Rel.own (R : Rel L B W H σ ρ) {i : Nat} {t : Tag} {ds : List D} (e : ρ[i]? = some (.own t ds)) : ∃ a vs, σ[i]? = some (some (.ref a)) ∧ OAt L H a t vs ∧ RepL L W H ds vs ∧
    ∀ o t' ds' vs', OAt L (upd H a o) a t' vs' → RepL L W H ds' vs' → Rel L B W (upd H a o) σ (ρ.set i (.own t' ds')) ∧ Stp B W H W (upd H a o) := by
  obtain ⟨oa, R⟩ := R
  obtain ⟨h1, vs, h2, h3⟩ := R.slo e
  refine ⟨oa i, vs, h1, h2, h3, fun o t' ds' vs' h r => ?_⟩
  obtain ⟨R2, S⟩ := R.write (o := o) e h r
  exact ⟨⟨oa, R2⟩, S⟩
/-! ### methods of an own list -/
def MtD {K : PySem.W.Frag} (L : Ly K) (r : V → List V → Hp → VK → Prop) (f : List D → List D → Option (D × List D)) : Prop := ∀ W H l ds vs as us d ds' Q, H l = some (.lst vs) → RepL L W H ds vs → RepL L W H as us → f ds as = some (d, ds') →
  (∀ v vs', Rep L W H d v → RepL L W H ds' vs' → Q v (upd H l (.lst vs'))) → r (.ref l) us H Q
theorem mt_of {i : Nat} {r : V → List V → Hp → VK → Prop} {f : List D → List D → Option (D × List D)} {ma : EM (List D)} {Q : VK} (hm : MtD L r f) (h : tE L Wx (eMt i f ma) σ H Q) : tBM X.K "list" r (tVar i) (tAs L Wx ma) σ H Q := by
  obtain ⟨B, W, ρ, R, q⟩ := h
  unfold eMt at q
  split at q
  case h_2 => exact q.elim
  case h_1 x0 ds0 e0 =>
    obtain ⟨a, vs, h1, h2, h3, _⟩ := R.own e0
    refine ⟨_, h1, .inl ⟨rfl, vs, .inl (.inl h2)⟩, B, W, ρ, R, M.wp_mono (fun r p => p.imp fun as ρ1 W1 H1 S1 R1 z us hu => ?_) (wp_seqE q)⟩
    split at z
    case h_2 => exact z.elim
    case h_1 x1 ds e1 =>
      obtain ⟨a1, vs1, g1, g2, g3, g4⟩ := R1.own e1
      rw [h1] at g1
      cases g1
      cases e : f ds as with
      | none => rw [e] at z; exact z.elim
      | some p =>
        obtain ⟨d, ds'⟩ := p
        rw [e] at z
        simp only [fcL_eq, fcR_eq] at z
        refine hm W1 H1 a ds vs1 as us d ds' Q g2 g3 hu e fun v vs' hv hvs => ?_
        obtain ⟨R2, S2⟩ := g4 (.lst vs') .lst ds' vs' upd_same hvs
        exact z W1 _ S2 R2 v (hv.tr S2.tr)
theorem mt0_of {i : Nat} {r : V → List V → Hp → VK → Prop} {f : List D → List D → Option (D × List D)} {Q : VK} (hm : MtD L r f) (h : tE L Wx (eMt0 i f) σ H Q) : tBM0 X.K "list" r (tVar i) σ H Q := by
  obtain ⟨B, W, ρ, R, z⟩ := h
  unfold eMt0 at z
  split at z
  case h_2 => exact z.elim
  case h_1 x1 ds e1 =>
    obtain ⟨a, vs1, g1, g2, g3, g4⟩ := R.own e1
    refine ⟨_, g1, .inl ⟨rfl, vs1, .inl (.inl g2)⟩, ?_⟩
    cases e : f ds [] with
    | none => rw [e] at z; exact z.elim
    | some p =>
      obtain ⟨d, ds'⟩ := p
      rw [e] at z
      refine hm W H a ds vs1 [] [] d ds' Q g2 g3 rfl e fun v vs' hv hvs => ?_
      obtain ⟨R2, S2⟩ := g4 (.lst vs') .lst ds' vs' upd_same hvs
      exact z W _ S2 R2 v (hv.tr S2.tr)
theorem md_append : MtD L rAppend fAppend := fun W H l ds vs as us d ds' Q hl r ra e q => by
  unfold fAppend at e
  split at e
  · split at e
    · rename_i y hlt
      cases e
      obtain ⟨x, rfl, hx⟩ := rep_ints1 ra
      exact ⟨l, vs, x, rfl, rfl, hl, by rw [r.length, sz_eq]; exact hlt, q _ _ rfl (r.append ⟨x, [], rfl, hx, rfl⟩)⟩
    · cases e
  · cases e
/-- extend by a list or a tuple that may be read -/
def rExtendD (K : PySem.W.Frag) : V → List V → Hp → VK → Prop := fun x us H Q => ∃ l b xs zs, x = .ref l ∧ us = [.ref b] ∧ H l = some (.lst xs) ∧ ((∃ o, H b = some (.frz o (.lst zs))) ∨ SqT K H b zs) ∧ xs.length + zs.length ≤ sizeLine ∧ Q .non (upd H l (.lst (xs ++ zs)))
section
open PySem.SeqAt
open PySem.AutoSeq1 (wpAny_loadPart')
open PySem.MeetsSeq PySem.MeetsSeq2 PySem.MeetsSeq3
theorem extend_tupD (l : Addr) (xs : Array Value) (k : Nat) (b : Addr) (ys : Array Value) (k2 : Nat) (dd : Option Addr) (sl : Array (Option Value)) (h0 : ¬(!xs.isEmpty && Builtin.List.listTooLong (xs.size + ys.size)) = true) (h1 : xs.size ≤ sizeLine) (h2 : xs.size + ys.size ≤ sizeLine + 1) :
    Meets (Builtin.«list.extend» ⟨[.ref l, .ref b], []⟩) (fun _ R s => s.heap.get? l = some { cls := .type "list", dict := none, data := .seq xs k, slots := #[] } ∧ s.heap.get? b = some { cls := .type "tuple", dict := dd, data := .seq ys k2, slots := sl } ∧
      R (.ok (.ret Value.none)) { s with heap := s.heap.update l (Obj.mapSeq fun x => x ++ ys), toks := s.toks }) :=
  .of_wp fun prog w A R s h => by
    obtain ⟨hp, g, d, tk, os⟩ := s
    obtain ⟨hl, hb, h⟩ := h
    have f1 := AutoSeq1.idx_int
    have f2 := AutoSeq1.sub_tuple_tuple
    have f3 := AutoSeq1.sub_list_list
    have f4 := AutoSeq1.sub_tuple_list
    have f5 := AutoSeq1.sub_list_tuple
    have hz' : (xs ++ ys).size ≤ sizeLine + 1 := by rw [Array.size_append]; exact h2
    wp_walk using (wpAny_updateSeq hl rfl (hz := h1) (_hz' := hz')), wpAny_loadPart' hl, wpAny_loadPart' hb
    exact ⟨_, rfl, h⟩
end
theorem mt_extendD : MtR X "list.extend" (rExtendD X.K) := by
  intro pins s σ H x us v ws Q I rx rv h
  obtain ⟨l, b, xs, zs, rfl, rfl, hH, hB, hz, q⟩ := h
  cases rx
  obtain ⟨u, rfl, ru⟩ := rv.one
  cases ru
  obtain ⟨z, its, n, r, hl, e⟩ := I.lstM hH
  have key : ∀ {its2 : List Value}, Vals zs its2 → (its.toArray.size + its2.toArray.size ≤ sizeLine) ∧ ¬ (!its.toArray.isEmpty && Builtin.List.listTooLong (its.toArray.size + its2.toArray.size)) = true := fun {its2} r2 => by
    have l2 := r2.length
    have : its.toArray.size + its2.toArray.size ≤ sizeLine := by rw [List.size_toArray, List.size_toArray]; omega
    exact ⟨this, by rw [notLongL this, Bool.and_false]; exact Bool.false_ne_true⟩
  have fin : ∀ {its2 : List Value}, Vals zs its2 → ∀ s' : Shared, s' = { s with heap := s.heap.update l (Obj.mapSeq fun x => x ++ its2.toArray), toks := s.toks } → EP X pins σ Q .none s' := fun {its2} r2 s' hs' => by
    subst hs'
    exact ⟨.non, _, I.lset (its' := its ++ its2) hH e (by simp) (r.append r2) (by rw [List.length_append]; exact hz), rfl, q⟩
  rcases hB with ⟨o, hB⟩ | hB
  · obtain ⟨_, z2, its2, n2, r2, e2⟩ := I.hok b _ hB
    obtain ⟨k1, k2⟩ := key r2
    exact call_meets F.slot_list_extend ⟨_, e, rfl⟩ F.entry_list_extend (F.args_list_extend_2 _ _) (AutoSeq1.list_extend_list_list_0 l its.toArray n b its2.toArray n2 k2 (by rw [List.size_toArray]; omega) (by omega)) ⟨e, e2, fin r2 _ rfl⟩
  · obtain ⟨its2, r2, ⟨⟨cls, dd, data, sl⟩, g, c, n2, d⟩, hz2⟩ := I.tuple hB
    simp only at c d
    subst c d
    obtain ⟨k1, k2⟩ := key r2
    exact call_meets F.slot_list_extend ⟨_, e, rfl⟩ F.entry_list_extend (F.args_list_extend_2 _ _) (extend_tupD l its.toArray n b its2.toArray n2 dd sl k2 (by rw [List.size_toArray]; omega) (by omega)) ⟨e, g, fin r2 _ rfl⟩
theorem md_extend : MtD L (rExtendD X.K) fExtend := fun W H l ds vs as us d ds' Q hl r ra e q => by
  unfold fExtend at e
  split at e
  · split at e
    · rename_i ys hlt
      cases e
      obtain ⟨x, rfl, a, zs, rfl, ⟨o, ha⟩, hr⟩ := rep_ints1 ra
      exact ⟨l, a, vs, zs, rfl, rfl, hl, .inl ⟨o, ha⟩, by rw [r.length, hr.length, sz_eq]; exact hlt, q _ _ rfl (r.append hr)⟩
    · cases e
  · split at e
    · rename_i ys hlt
      cases e
      obtain ⟨x, rfl, a, zs, rfl, ha, hr⟩ := rep_ints1 ra
      exact ⟨l, a, vs, zs, rfl, rfl, hl, .inr ha, by rw [r.length, hr.length, sz_eq]; exact hlt, q _ _ rfl (r.append hr)⟩
    · cases e
  · cases e
theorem RepL.dropLast {ds : List D} {vs : List V} (r : RepL L W H ds vs) : RepL L W H ds.dropLast vs.dropLast := by
  rw [List.dropLast_eq_take, List.dropLast_eq_take, r.length]
  exact r.take _
theorem md_pop : MtD L rPop fPop := fun W H l ds vs as us d ds' Q hl r ra e q => by
  unfold fPop at e
  split at e
  · split at e
    · rename_i y hy
      cases e
      obtain ⟨v, h1, h2⟩ := r.get hy
      refine ⟨l, vs, v, rfl, ra, hl, by rw [r.length]; exact h1, q _ _ h2 r.dropLast⟩
    · cases e
  · cases e
theorem RepL.eraseIdx : ∀ {ds : List D} {vs : List V} (k : Nat), RepL L W H ds vs → RepL L W H (ds.eraseIdx k) (vs.eraseIdx k)
  | [], vs, k, r => by rw [show vs = [] from r]; rfl
  | _ :: _, _, 0, ⟨v, r, e, h, t⟩ => by subst e; exact t
  | _ :: _, _, k + 1, ⟨v, r, e, h, t⟩ => by subst e; exact ⟨v, _, rfl, h, RepL.eraseIdx k t⟩
theorem md_popAt : MtD L rPopAt fPopAt := fun W H l ds vs as us d ds' Q hl r ra e q => by
  unfold fPopAt at e
  split at e
  · rename_i i
    obtain ⟨k, e1, e2⟩ := Option.bind_eq_some_iff.mp e
    obtain ⟨y, e3, e4⟩ := Option.map_eq_some_iff.mp e2
    cases e4
    unfold ixPop at e1
    split at e1
    · rename_i hi
      obtain ⟨x, rfl, hx⟩ := rep_ints1 ra
      obtain rfl : x = _ := hx
      obtain ⟨v, h1, h2⟩ := r.get e3
      have e63 : (2 : Int) ^ 63 = 9223372036854775808 := by decide
      exact ⟨l, vs, i, k, v, rfl, rfl, hl, by rw [e63]; exact hi.1, by rw [e63]; exact hi.2, by rw [r.length]; exact e1, h1, q _ _ h2 (r.eraseIdx k)⟩
    · cases e1
  · cases e
theorem RepL.reverse : ∀ {ds : List D} {vs : List V}, RepL L W H ds vs → RepL L W H ds.reverse vs.reverse
  | [], vs, r => by rw [show vs = [] from r]; rfl
  | _ :: _, _, ⟨v, r, e, h, t⟩ => by
    subst e
    rw [List.reverse_cons, List.reverse_cons]
    exact (RepL.reverse t).append ⟨v, [], rfl, h, rfl⟩
theorem md_reverse : MtD L rReverse fReverse := fun W H l ds vs as us d ds' Q hl r ra e q => by
  unfold fReverse at e
  split at e
  · cases e
    exact ⟨l, vs, rfl, ra, hl, q _ _ rfl r.reverse⟩
  · cases e

def LineOk (apos cpos : Pos) : Prop := (apos.endLine == cpos.line) = true
theorem d_append {i : Nat} {o e : Expr} {apos cpos : Pos} {ma : EM (List D)} (ho : PE X o (tVar i)) (ha : PA X [e] (tAs L Wx ma))
    (hbase : attributeBase o "append" X.env (eval o X.env) = eval o X.env := by rfl) (hline : (apos.endLine == cpos.line) = true := by rfl) (hs : starEach [e] X.env = (false, eval e X.env) :: starEach [] X.env := by rfl) :
    PE X (.Call (.Attribute o "append" apos) [e] [] cpos) (tE L Wx (eMt i fAppend ma)) :=
  PE.weak (pe_bm F.plainAttrs_list F.slot_list_append F.type_list_append mt_append ho ha hbase (by rw [hs]; rfl) hline hs rfl) fun _ _ _ q => mt_of md_append q
theorem d_extend {i : Nat} {o e : Expr} {apos cpos : Pos} {ma : EM (List D)} (ho : PE X o (tVar i)) (ha : PA X [e] (tAs L Wx ma))
    (hbase : attributeBase o "extend" X.env (eval o X.env) = eval o X.env := by rfl) (hline : (apos.endLine == cpos.line) = true := by rfl) (hs : starEach [e] X.env = (false, eval e X.env) :: starEach [] X.env := by rfl) :
    PE X (.Call (.Attribute o "extend" apos) [e] [] cpos) (tE L Wx (eMt i fExtend ma)) :=
  PE.weak (pe_bm F.plainAttrs_list F.slot_list_extend F.type_list_extend mt_extendD ho ha hbase (by rw [hs]; rfl) hline hs rfl) fun _ _ _ q => mt_of md_extend q
theorem d_popAt {i : Nat} {o e : Expr} {apos cpos : Pos} {ma : EM (List D)} (ho : PE X o (tVar i)) (ha : PA X [e] (tAs L Wx ma))
    (hbase : attributeBase o "pop" X.env (eval o X.env) = eval o X.env := by rfl) (hline : (apos.endLine == cpos.line) = true := by rfl) (hs : starEach [e] X.env = (false, eval e X.env) :: starEach [] X.env := by rfl) :
    PE X (.Call (.Attribute o "pop" apos) [e] [] cpos) (tE L Wx (eMt i fPopAt ma)) :=
  PE.weak (pe_bm F.plainAttrs_list F.slot_list_pop F.type_list_pop mt_popAt ho ha hbase (by rw [hs]; rfl) hline hs rfl) fun _ _ _ q => mt_of md_popAt q
theorem d_pop {i : Nat} {o : Expr} {apos cpos : Pos} (ho : PE X o (tVar i))
    (hbase : attributeBase o "pop" X.env (eval o X.env) = eval o X.env := by rfl) (hline : (apos.endLine == cpos.line) = true := by rfl) :
    PE X (.Call (.Attribute o "pop" apos) [] [] cpos) (tE L Wx (eMt0 i fPop)) :=
  PE.weak (pe_bm0 F.plainAttrs_list F.slot_list_pop F.type_list_pop mt_pop ho hbase hline) fun _ _ _ q => mt0_of md_pop q
theorem d_reverse {i : Nat} {o : Expr} {apos cpos : Pos} (ho : PE X o (tVar i))
    (hbase : attributeBase o "reverse" X.env (eval o X.env) = eval o X.env := by rfl) (hline : (apos.endLine == cpos.line) = true := by rfl) :
    PE X (.Call (.Attribute o "reverse" apos) [] [] cpos) (tE L Wx (eMt0 i fReverse)) :=
  PE.weak (pe_bm0 F.plainAttrs_list F.slot_list_reverse F.type_list_reverse mt_reverse ho hbase hline) fun _ _ _ q => mt0_of md_reverse q
/-! ### x[i] = v -/
def rSetD : V → V → V → Hp → (Hp → Prop) → Prop := fun o i v H Q => rSetL o i v H Q ∨ ∃ a H', o = .ref a ∧ DPut H a i v H' ∧ Q H'
theorem set_any (hu : X.A.units + 1 < cLine) : PSet X rSetD := fun pins s σ H o i v ov iv u Q I ro ri rv h => by
  rcases h with h | ⟨a, H', rfl, g, q⟩
  · exact set_list pins s σ H o i v ov iv u Q I ro ri rv h
  · obtain rfl : ov = Value.ref a := ro
    exact d_setItem hu I g ri rv fun s' I' => ⟨H', I', q⟩
theorem put_of {i : Nat} {mk mv : EM D} {E : Ends} (h : tS L Wx (sPut i mk mv) E σ H) : tAsg (tE L Wx mv) (gSub (tVar i) (tE L Wx mk) rSetD) E σ H := by
  obtain ⟨B, W, ρ, R, q⟩ := h
  refine ⟨B, W, ρ, R, M.wp_mono (fun r p => p.imp fun d ρ1 W1 H1 S1 R1 z v hv => ?_) (wp_seqES q)⟩
  split at z
  case h_2 => exact z.elim
  case h_1 x0 t0 ds0 e0 =>
    obtain ⟨a, vs, h1, h2, h3, _⟩ := R1.own e0
    refine ⟨_, h1, B, W1, ρ1, R1, M.wp_mono (fun r p => p.imp fun k ρ2 W2 H2 S2 R2 z2 y hy => ?_) (wp_seqES z)⟩
    have hv2 := hv.tr S2.tr
    cases e : putSlot ρ2[i]? k d with
    | none => rw [e] at z2; exact z2.elim
    | some s =>
      rw [e] at z2
      unfold putSlot at e
      split at e
      · rename_i ds e1
        split at e
        · rename_i n
          obtain ⟨j, e2, rfl⟩ := Option.map_eq_some_iff.mp e
          obtain ⟨a1, vs1, g1, g2, g3, g4⟩ := R2.own e1
          rw [h1] at g1
          cases g1
          obtain rfl : y = _ := hy
          refine .inl ⟨a, vs1, n, j, rfl, rfl, g2, by rw [g3.length]; exact e2, ?_⟩
          obtain ⟨R3, S3⟩ := g4 (.lst (vs1.set j v)) .lst (ds.set j d) _ upd_same (g3.set j hv2)
          exact z2 W2 _ _ S3 R3
        · cases e
      · rename_i ks ds e1
        obtain ⟨kk, e2, e3⟩ := Option.bind_eq_some_iff.mp e
        split at e3
        · rename_i hlt
          cases e3
          obtain ⟨a1, vs1, g1, ⟨gl, g2⟩, g3, g4⟩ := R2.own e1
          rw [h1] at g1
          cases g1
          obtain ⟨e5, e6⟩ := putK_zip (k := kk) (v := v) gl
          refine .inr ⟨a, _, rfl, .inl ⟨_, kk, g2, dKey_kV e2 (.inl hy), by rw [List.length_zip, sz_eq]; omega, rfl⟩, ?_⟩
          obtain ⟨R3, S3⟩ := g4 (.dK (putK (ks.zip vs1) kk v)) (.dct (putKs ks kk)) (putDs ks ds kk d) (putDs ks vs1 kk v) ⟨e6, by rw [upd_same, e5]⟩ (g3.putDs hv2)
          exact z2 W2 _ _ S3 R3
        · cases e3
      · cases e
theorem s_put {i : Nat} {o k e : Expr} {mk mv : EM D} {pos' : Pos} (hu : X.A.units + 1 < cLine) (ho : PE X o (tVar i)) (hk : PE X k (tE L Wx mk)) (hv : PE X e (tE L Wx mv)) (hs : swapsWithSole [.Subscript o k pos'] e pos.line X.env = pure false := by rfl) (hw : swappedStores [.Subscript o k pos'] e X.env = pure none := by rfl)
    (h1 : (assignEach [.Subscript o k pos'] X.env).map (·.2) = [assign (.Subscript o k pos') X.env] := by rfl)
    (ha : ∀ v, assign (.Subscript o k pos') X.env v = (do
      let ov ← holding [v] (eval o X.env)
      let iv ← holding [v, ov] (eval k X.env)
      standAt pos'
      holding [v, ov, iv] (setItem ov iv v)
      release [v, ov, iv] []) := by intro _; rfl) : PS X (.Assign [.Subscript o k pos'] e pos) (tS L Wx (sPut i mk mv)) :=
  PS.weak (ps_asg hv (pg_sub ho hk (set_any hu) ha) hs hw h1) fun _ _ _ q => put_of q
/-! ### self.f = v -/
theorem putFld_zip {f : Str} {d : D} {v : V} (hd : Rep L W H d v) : ∀ {fs : List Str} {ds ds' : List D} {vs : List V}, putFld fs ds f d = some ds' → RepL L W H ds vs → vs.length ≤ fs.length → ∃ vs', putF f v (fs.zip vs) = fs.zip vs' ∧ RepL L W H ds' vs' ∧ vs'.length ≤ fs.length
  | [], ds, _, _, e, _, _ => by cases ds <;> simp [putFld] at e
  | f' :: fs, [], ds', vs, e, r, l => by
    obtain rfl : vs = [] := r
    unfold putFld at e
    split at e
    · rename_i hf
      cases e
      exact ⟨[v], by subst hf; simp [putF], ⟨v, [], rfl, hd, rfl⟩, by simp⟩
    · cases e
  | f' :: fs, d' :: ds, ds', vs, e, r, l => by
    obtain ⟨x, xs, rfl, h1, h2⟩ := r
    unfold putFld at e
    split at e
    · rename_i hf
      cases e
      refine ⟨v :: xs, ?_, ⟨v, xs, rfl, hd, h2⟩, by simpa using l⟩
      rw [List.zip_cons_cons, List.zip_cons_cons]
      show (if f' = f then _ else _) = _
      rw [if_pos hf, hf]
    · rename_i hf
      obtain ⟨es, e1, rfl⟩ := Option.map_eq_some_iff.mp e
      obtain ⟨ws, e2, e3, e4⟩ := putFld_zip hd e1 h2 (by simpa using l)
      refine ⟨x :: ws, ?_, ⟨x, ws, rfl, h1, e3⟩, by simpa using e4⟩
      rw [List.zip_cons_cons, List.zip_cons_cons, ← e2]
      show (if f' = f then _ else _) = _
      rw [if_neg hf]
theorem s_fld {i c : Nat} {f : Str} {o e : Expr} {mv : EM D} {pos' : Pos} (cl : Cls X.K (L.CA c)) (na : NoAttr X.K (L.CA c) f) (ho : PE X o (tVar i)) (hv : PE X e (tE L Wx mv)) (hs : swapsWith e (some (.Attribute o f pos')) pos.line X.env = pure false := by rfl) :
    PS X (.Assign [.Attribute o f pos'] e pos) (tS L Wx (sFldD c i f mv)) := PS.weak (ps_fld ho hv hs) fun E σ H q => by
  obtain ⟨B, W, ρ, R, q⟩ := q
  refine ⟨B, W, ρ, R, M.wp_mono (fun r p => p.imp fun d ρ1 W1 H1 S1 R1 z v hv => ?_) (wp_seqES q)⟩
  split at z
  case h_2 => exact z.elim
  case h_1 x0 c' ds e0 =>
    split at z
    case isFalse => exact z.elim
    case isTrue hc =>
      obtain ⟨rfl, hlen⟩ := hc
      obtain ⟨a, vs, h1, ⟨hl, dx, hp, h2⟩, h3, h4⟩ := R1.own e0
      cases e : putFld (cf c') ds f d with
      | none => rw [e] at z; exact z.elim
      | some ds' =>
        rw [e] at z
        obtain ⟨vs', e1, e2, e3⟩ := putFld_zip hv e h3 hl
        refine ⟨_, h1, a, _, dx, _, rfl, h2, cl, na, by rw [List.length_zip]; omega, ?_⟩
        obtain ⟨R2, S2⟩ := h4 (.ins (L.CA c') dx (putF f v ((cf c').zip vs))) (.obj c') ds' vs' ⟨e3, dx, hp, by rw [upd_same, e1]⟩ e2
        exact z W1 _ σ S2 R2
end
end DL

/-! D13: built-in functions. -/
namespace DL
open PySem PySem.Spec PyProof.Rows L2 PySem.W

/-- one argument that is read, a partial answer -/
def rC1 {K : PySem.W.Frag} (L : Ly K) (g : D → Option D) : List V → Hp → VK → Prop := fun xs H Q => ∃ W d v res, xs = [v] ∧ WOk L W H ∧ RepP L W H d v ∧ g d = some res ∧ ∀ H' w, Same H H' → Rep L W H' res w → Q w H'
/-- .. the answer a new object -/
def rF1 {K : PySem.W.Frag} (L : Ly K) (g : D → Option (Tag × List D)) : List V → Hp → VK → Prop := fun xs H Q => ∃ W d v t ds, xs = [v] ∧ WOk L W H ∧ RepP L W H d v ∧ g d = some (t, ds) ∧
  ∀ p o vs, H p = none → OAt L (upd H p o) p t vs → RepL L W H ds vs → Q (.ref p) (upd H p o)
section
variable {X : Cx} {L : Ly X.K} {Wx : WX} {B : Addr → Prop} {W W1 W' : WM} {H H1 H' : Hp} {σ : L2.St} {ρ ρ' : Rho} {pos : Pos}
theorem c1_of {g : D → Option D} {m : EM D} {Q : VK} (h : tE L Wx (e1 g m) σ H Q) : tCB (rC1 L g) (tCons (tP L Wx m) tNil) σ H Q := by
  obtain ⟨B, W, ρ, R, q⟩ := h
  refine ⟨B, W, ρ, R, M.wp_mono (fun r p => p.imp fun d ρ1 W1 H1 S1 R1 z v hv => ?_) (wp_seqE q)⟩
  cases e : g d with
  | none => rw [e] at z; exact z.elim
  | some res =>
    rw [e] at z
    refine ⟨W1, d, v, res, rfl, R1.wok, hv, e, fun H' w s hw => ?_⟩
    obtain ⟨R2, S2⟩ := R1.same s
    exact z W1 H' S2 R2 w hw
theorem f1_of {g : D → Option (Tag × List D)} {m : EM D} {Q : VK} (h : tF L Wx (f1 g m) σ H Q) : tCB (rF1 L g) (tCons (tP L Wx m) tNil) σ H Q := by
  obtain ⟨B, W, ρ, R, q⟩ := h
  refine ⟨B, W, ρ, R, M.wp_mono (fun r p => p.imp fun d ρ1 W1 H1 S1 R1 z v hv => ?_) (wp_seqE q)⟩
  cases e : g d with
  | none => rw [e] at z; exact z.elim
  | some res =>
    obtain ⟨t, ds⟩ := res
    rw [e] at z
    refine ⟨W1, d, v, t, ds, rfl, R1.wok, hv, e, fun p o vs hp ha hr => ?_⟩
    obtain ⟨R2, S2, nB⟩ := R1.newB (o := o) hp
    exact z W1 _ S2 (R2.lessB fun b h => .inl h) p vs nB R2 ha (hr.tr S2.tr)
theorem d_b1 {id : String} {x : Str} {e : Expr} {p : Pos} {g : D → Option D} {m : EM D} (hc : CallR X (.builtin id) (rC1 L g)) (hg : Gl X x) (hm : X.mg x = none) (hv : bootBuiltins x = some (.builtin id)) (ha : PE X e (tP L Wx m))
    (hn : x ≠ "__name__" := by decide) (hdb : (x == ("__debug__" : Str)) = false := by decide) (he : starEach [e] X.env = (false, eval e X.env) :: starEach [] X.env := by rfl) : PE X (.Call (.Name x p) [e] [] pos) (tE L Wx (e1 g m)) :=
  PE.weak (pe_callB hc hg hm hv (pa_cons ha pa_nil he) hn hdb he rfl) fun _ _ _ q => c1_of q
theorem d_t1 {T : String} {x : Str} {e : Expr} {p : Pos} {g : D → Option D} {m : EM D} (hc : CallR X (.type T) (rC1 L g)) (hg : Gl X x) (hm : X.mg x = none) (hv : bootBuiltins x = some (.type T)) (ha : PE X e (tP L Wx m))
    (hn : x ≠ "__name__" := by decide) (hdb : (x == ("__debug__" : Str)) = false := by decide) (he : starEach [e] X.env = (false, eval e X.env) :: starEach [] X.env := by rfl) : PE X (.Call (.Name x p) [e] [] pos) (tE L Wx (e1 g m)) :=
  PE.weak (pe_callTy hc hg hm hv (pa_cons ha pa_nil he) hn hdb he rfl) fun _ _ _ q => c1_of q
theorem f_b1 {id : String} {x : Str} {e : Expr} {p : Pos} {g : D → Option (Tag × List D)} {m : EM D} (hc : CallR X (.builtin id) (rF1 L g)) (hg : Gl X x) (hm : X.mg x = none) (hv : bootBuiltins x = some (.builtin id)) (ha : PE X e (tP L Wx m))
    (hn : x ≠ "__name__" := by decide) (hdb : (x == ("__debug__" : Str)) = false := by decide) (he : starEach [e] X.env = (false, eval e X.env) :: starEach [] X.env := by rfl) : PE X (.Call (.Name x p) [e] [] pos) (tF L Wx (f1 g m)) :=
  PE.weak (pe_callB hc hg hm hv (pa_cons ha pa_nil he) hn hdb he rfl) fun _ _ _ q => f1_of q
theorem f_t1 {T : String} {x : Str} {e : Expr} {p : Pos} {g : D → Option (Tag × List D)} {m : EM D} (hc : CallR X (.type T) (rF1 L g)) (hg : Gl X x) (hm : X.mg x = none) (hv : bootBuiltins x = some (.type T)) (ha : PE X e (tP L Wx m))
    (hn : x ≠ "__name__" := by decide) (hdb : (x == ("__debug__" : Str)) = false := by decide) (he : starEach [e] X.env = (false, eval e X.env) :: starEach [] X.env := by rfl) : PE X (.Call (.Name x p) [e] [] pos) (tF L Wx (f1 g m)) :=
  PE.weak (pe_callTy hc hg hm hv (pa_cons ha pa_nil he) hn hdb he rfl) fun _ _ _ q => f1_of q
/-! ### len, list, tuple -/
theorem rd_sql {a : Addr} {vs : List V} (h : Rd H a (.lst vs)) : SqL X.K H a vs := by
  rcases h with h | h
  · exact .inl (.inl h)
  · exact .inl (.inr h)
theorem same_refl : Same H H := fun _ _ e => e
theorem call_lenK : CallR X (.builtin "len") (fun xs H Q => ∃ a kvs, xs = [V.ref a] ∧ Rd H a (.dK kvs) ∧ Q (.int kvs.length) H) := by
  intro pins s σ H xs us Q I r h
  obtain ⟨a, kvs, rfl, hd, q⟩ := h
  obtain ⟨u, rfl, ru⟩ := vals1 r
  cases ru
  exact d_len I hd fun t s' I' => ⟨.int kvs.length, H, I', ⟨t, rfl⟩, q⟩
theorem len_D : CallR X (.builtin "len") (rC1 L lenO) := by
  intro pins s σ H xs us Q I r h
  obtain ⟨W, d, v, res, rfl, wk, hr, e, q⟩ := h
  cases d with
  | str y =>
    simp only [lenO] at e
    split at e
    · rename_i hl
      cases e
      rw [hr.str] at r
      exact call_len pins s σ H _ us Q I r ⟨_, _, rfl, ⟨by rw [sz_eq]; exact hl, rfl⟩, q H _ same_refl rfl⟩
    · cases e
  | node t ds =>
    cases t with
    | lst =>
      cases e
      obtain ⟨a, vs, rfl, ha, ra⟩ := hr.lst
      exact call_len pins s σ H _ us Q I r ⟨_, _, rfl, .inl ⟨vs, rd_sql ha, rfl⟩, by rw [ra.length]; exact q H _ same_refl rfl⟩
    | tup =>
      cases e
      obtain ⟨a, vs, rfl, ha, ra⟩ := hr.tup
      exact call_len pins s σ H _ us Q I r ⟨_, _, rfl, .inr ⟨vs, ha, rfl⟩, by rw [ra.length]; exact q H _ same_refl rfl⟩
    | dct ks =>
      cases e
      obtain ⟨a, vs, rfl, hl, ha, ra⟩ := hr.dct
      exact call_lenK pins s σ H _ us Q I r ⟨a, _, rfl, ha, by rw [List.length_zip, ← hl, Nat.min_self]; exact q H _ same_refl rfl⟩
    | _ => cases e
  | _ => cases e
theorem list_D (hc : X.calm = true) : CallR X (.type "list") (rF1 L listO) := by
  intro pins s σ H xs us Q I r h
  obtain ⟨W, d, v, t, ds', rfl, wk, hr, e, q⟩ := h
  cases d with
  | node t ds =>
    cases t with
    | lst =>
      cases e
      obtain ⟨a, vs, rfl, ha, ra⟩ := hr.lst
      exact call_list_of pins s σ H _ us Q I r ⟨_, _, rfl, .inl (rd_sql ha), fun l hl => q l (.lst vs) vs hl upd_same ra⟩
    | tup =>
      cases e
      obtain ⟨a, vs, rfl, ha, ra⟩ := hr.tup
      exact call_list_of pins s σ H _ us Q I r ⟨_, _, rfl, .inr ha, fun l hl => q l (.lst vs) vs hl upd_same ra⟩
    | dct ks =>
      cases e
      obtain ⟨a, vs, rfl, hl, ha, ra⟩ := hr.dct
      refine call_listD hc pins s σ H _ us Q I r ⟨a, _, rfl, ha, fun p hp => q p _ (ks.map kV) hp ?_ kVs_rep⟩
      have e : (ks.zip vs).map (fun kv => kV kv.1) = ks.map kV := by
        show (ks.zip vs).map (kV ∘ Prod.fst) = _
        rw [← List.map_map, List.map_fst_zip (by omega)]
      rw [e]
      exact upd_same
    | _ => cases e
  | _ => cases e
theorem rep_of_tup {ds : List D} {v : V} (h : RepP L W H (.node .tup ds) v) : Rep L W H (.node .tup ds) v := by
  rcases h with h | ⟨t, ds', a, vs, e, _, z, _⟩
  · exact h
  · cases e
    exact z.elim
theorem tuple_D : CallR X (.type "tuple") (rC1 L tupleO) := by
  intro pins s σ H xs us Q I r h
  obtain ⟨W, d, v, res, rfl, wk, hr, e, q⟩ := h
  cases d with
  | node t ds =>
    cases t with
    | lst =>
      cases e
      obtain ⟨a, vs, rfl, ha, ra⟩ := hr.lst
      exact call_tuple_of pins s σ H _ us Q I r ⟨a, vs, rfl, .inl ⟨rd_sql ha, fun l hl => frz_tup hl ra q⟩⟩
    | tup =>
      cases e
      have h2 := rep_of_tup hr
      obtain ⟨a, vs, rfl, ha, ra⟩ := hr.tup
      exact call_tuple_of pins s σ H _ us Q I r ⟨a, vs, rfl, .inr ⟨ha, q H _ same_refl h2⟩⟩
    | _ => cases e
  | _ => cases e
/-! ### all, any, int, sum, max, min -/
theorem blsD_cons {d : D} {ds : List D} {bs : List Bool} (e : blsD (d :: ds) = some bs) : ∃ b r, d = .bl b ∧ blsD ds = some r ∧ bs = b :: r := by
  cases d with
  | bl b =>
    obtain ⟨r, e2, e3⟩ := Option.map_eq_some_iff.mp (show (blsD ds).map (b :: ·) = some bs from e)
    exact ⟨b, r, rfl, e2, e3.symm⟩
  | _ => cases (show (none : Option (List Bool)) = some bs from e)
theorem intsD_cons {d : D} {ds : List D} {bs : List Int} (e : intsD (d :: ds) = some bs) : ∃ b r, d = .int b ∧ intsD ds = some r ∧ bs = b :: r := by
  cases d with
  | int b =>
    obtain ⟨r, e2, e3⟩ := Option.map_eq_some_iff.mp (show (intsD ds).map (b :: ·) = some bs from e)
    exact ⟨b, r, rfl, e2, e3.symm⟩
  | _ => cases (show (none : Option (List Int)) = some bs from e)
theorem blsD_vs : ∀ {ds : List D} {vs : List V} {bs : List Bool}, RepL L W H ds vs → blsD ds = some bs → vs = bs.map V.bl
  | [], vs, bs, r, e => by cases e; exact r
  | d :: ds, vs, bs, r, e => by
    obtain ⟨v, w, rfl, h1, h2⟩ := r
    obtain ⟨b, bs', rfl, e2, rfl⟩ := blsD_cons e
    rw [blsD_vs h2 e2, show v = .bl b from h1]
    rfl
theorem intsD_vs : ∀ {ds : List D} {vs : List V} {bs : List Int}, RepL L W H ds vs → intsD ds = some bs → vs = bs.map V.int
  | [], vs, bs, r, e => by cases e; exact r
  | d :: ds, vs, bs, r, e => by
    obtain ⟨v, w, rfl, h1, h2⟩ := r
    obtain ⟨b, bs', rfl, e2, rfl⟩ := intsD_cons e
    rw [intsD_vs h2 e2, show v = .int b from h1]
    rfl
theorem sumI_eq : ∀ xs : List Int, sumI xs = xs.sum
  | [] => rfl
  | x :: xs => by rw [sumI, sumI_eq xs, List.sum_cons]
theorem lstB_of {f : List Bool → Option D} {d res : D} {v : V} (hr : RepP L W H d v) (e : lstB f d = some res) : ∃ a bs, v = .ref a ∧ SqL X.K H a (bs.map V.bl) ∧ f bs = some res := by
  unfold lstB at e
  split at e
  · obtain ⟨bs, e1, e2⟩ := Option.bind_eq_some_iff.mp e
    obtain ⟨a, vs, rfl, ha, ra⟩ := hr.lst
    exact ⟨a, bs, rfl, by rw [← blsD_vs ra e1]; exact rd_sql ha, e2⟩
  · cases e
theorem lstI_of {f : List Int → Option D} {d res : D} {v : V} (hr : RepP L W H d v) (e : lstI f d = some res) : ∃ a bs, v = .ref a ∧ SqL X.K H a (bs.map V.int) ∧ f bs = some res := by
  unfold lstI at e
  split at e
  · obtain ⟨bs, e1, e2⟩ := Option.bind_eq_some_iff.mp e
    obtain ⟨a, vs, rfl, ha, ra⟩ := hr.lst
    exact ⟨a, bs, rfl, by rw [← intsD_vs ra e1]; exact rd_sql ha, e2⟩
  · cases e
theorem all_D (hc : X.calm = true) : CallR X (.builtin "all") (rC1 L allB) := CallR.weak (cr_all hc) fun xs H Q h => by
  obtain ⟨W, d, v, res, rfl, wk, hr, e, q⟩ := h
  obtain ⟨a, bs, rfl, ha, e2⟩ := lstB_of hr e
  cases e2
  exact ⟨a, bs, rfl, ha, q H _ same_refl rfl⟩
theorem any_D (hc : X.calm = true) : CallR X (.builtin "any") (rC1 L anyB) := CallR.weak (cr_any hc) fun xs H Q h => by
  obtain ⟨W, d, v, res, rfl, wk, hr, e, q⟩ := h
  obtain ⟨a, bs, rfl, ha, e2⟩ := lstB_of hr e
  cases e2
  exact ⟨a, bs, rfl, ha, q H _ same_refl rfl⟩
theorem sum_D (hc : X.calm = true) : CallR X (.builtin "sum") (rC1 L sumO) := CallR.weak (cr_sum hc) fun xs H Q h => by
  obtain ⟨W, d, v, res, rfl, wk, hr, e, q⟩ := h
  obtain ⟨a, bs, rfl, ha, e2⟩ := lstI_of hr e
  cases e2
  exact ⟨a, bs, rfl, ha, by rw [← sumI_eq]; exact q H _ same_refl rfl⟩
theorem int_D : CallR X (.type "int") (rC1 L int1O) := CallR.weak call_int1 fun xs H Q h => by
  obtain ⟨W, d, v, res, rfl, wk, hr, e, q⟩ := h
  cases d with
  | int i => cases e; exact .inl ⟨i, by rw [hr.int], q H _ same_refl rfl⟩
  | bl b => cases e; exact .inr ⟨b, by rw [hr.bl], q H _ same_refl rfl⟩
  | _ => cases e
theorem maxI_spec : ∀ (xs : List Int) (m : Int), maxI m xs ∈ m :: xs ∧ ∀ y ∈ m :: xs, y ≤ maxI m xs
  | [], m => by simp [maxI]
  | x :: xs, m => by
    by_cases c : x > m
    · obtain ⟨h1, h2⟩ := maxI_spec xs x
      simp only [maxI, if_pos c]
      refine ⟨List.mem_cons_of_mem _ h1, fun y hy => ?_⟩
      have hm := h2 _ List.mem_cons_self
      rcases List.mem_cons.mp hy with rfl | hy
      · omega
      · exact h2 y hy
    · obtain ⟨h1, h2⟩ := maxI_spec xs m
      simp only [maxI, if_neg c]
      have hm := h2 _ List.mem_cons_self
      refine ⟨?_, fun y hy => ?_⟩
      · rcases List.mem_cons.mp h1 with h | h
        · rw [h]; simp
        · simp [h]
      · rcases List.mem_cons.mp hy with rfl | hy
        · exact hm
        · rcases List.mem_cons.mp hy with rfl | hy
          · omega
          · exact h2 y (List.mem_cons_of_mem _ hy)
theorem minI_spec : ∀ (xs : List Int) (m : Int), minI m xs ∈ m :: xs ∧ ∀ y ∈ m :: xs, minI m xs ≤ y
  | [], m => by simp [minI]
  | x :: xs, m => by
    by_cases c : x < m
    · obtain ⟨h1, h2⟩ := minI_spec xs x
      simp only [minI, if_pos c]
      refine ⟨List.mem_cons_of_mem _ h1, fun y hy => ?_⟩
      have hm := h2 _ List.mem_cons_self
      rcases List.mem_cons.mp hy with rfl | hy
      · omega
      · exact h2 y hy
    · obtain ⟨h1, h2⟩ := minI_spec xs m
      simp only [minI, if_neg c]
      have hm := h2 _ List.mem_cons_self
      refine ⟨?_, fun y hy => ?_⟩
      · rcases List.mem_cons.mp h1 with h | h
        · rw [h]; simp
        · simp [h]
      · rcases List.mem_cons.mp hy with rfl | hy
        · exact hm
        · rcases List.mem_cons.mp hy with rfl | hy
          · omega
          · exact h2 y (List.mem_cons_of_mem _ hy)
theorem max_D (hc : X.calm = true) : CallR X (.builtin "max") (rC1 L maxO) := CallR.weak (cr_max hc) fun xs H Q h => by
  obtain ⟨W, d, v, res, rfl, wk, hr, e, q⟩ := h
  obtain ⟨a, bs, rfl, ha, e2⟩ := lstI_of hr e
  cases bs with
  | nil => cases e2
  | cons x xs =>
    cases e2
    obtain ⟨h1, h2⟩ := maxI_spec xs x
    refine ⟨a, _, rfl, ha, by simp, fun m hm hy => ?_⟩
    have : m = maxI x xs := Int.le_antisymm (h2 m hm) (hy _ h1)
    rw [this]
    exact q H _ same_refl rfl
theorem min_D (hc : X.calm = true) : CallR X (.builtin "min") (rC1 L minO) := CallR.weak (cr_min hc) fun xs H Q h => by
  obtain ⟨W, d, v, res, rfl, wk, hr, e, q⟩ := h
  obtain ⟨a, bs, rfl, ha, e2⟩ := lstI_of hr e
  cases bs with
  | nil => cases e2
  | cons x xs =>
    cases e2
    obtain ⟨h1, h2⟩ := minI_spec xs x
    refine ⟨a, _, rfl, ha, by simp, fun m hm hy => ?_⟩
    have : m = minI x xs := Int.le_antisymm (hy _ h1) (h2 m hm)
    rw [this]
    exact q H _ same_refl rfl
end
end DL

/-! D14: sorted. -/
namespace DL
open PySem PySem.Spec PyProof.Rows L2 PySem.W
section
variable {α β : Type}
theorem insS_app {le : α → α → Bool} {a : α} : ∀ {l1 l2 : List α}, (∀ b ∈ l1, le a b = false) → (∀ b ∈ l2, le a b = true) → insS le a (l1 ++ l2) = l1 ++ a :: l2
  | [], [], _, _ => rfl
  | [], b :: l2, _, h => by
    show (if le a b = true then _ else _) = _
    rw [if_pos (h b List.mem_cons_self)]; rfl
  | b :: l1, l2, h, h' => by
    have e := insS_app (fun c hc => h c (List.mem_cons_of_mem _ hc)) h'
    show (if le a b = true then _ else b :: insS le a (l1 ++ l2)) = _
    rw [if_neg (by rw [h b List.mem_cons_self]; simp), e]; rfl
theorem isort_eq {le : α → α → Bool} (tr : ∀ a b c, le a b = true → le b c = true → le a c = true) (to : ∀ a b, (le a b || le b a) = true) : ∀ l : List α, l.mergeSort le = isort le l
  | [] => by simp [isort]
  | a :: l => by
    obtain ⟨l1, l2, h1, h2, h3⟩ := List.mergeSort_cons tr to a l
    have pw := List.pairwise_mergeSort tr to (a :: l)
    rw [h1] at pw ⊢
    show _ = insS le a (isort le l)
    rw [← isort_eq tr to l, h2]
    refine (insS_app (fun b hb => by simpa using h3 b hb) fun b hb => ?_).symm
    exact (List.pairwise_cons.mp (List.pairwise_append.mp pw).2.1).1 b hb
theorem insS_map {le : β → β → Bool} {f : α → β} {a : α} : ∀ l : List α, (insS (fun x y => le (f x) (f y)) a l).map f = insS le (f a) (l.map f)
  | [] => rfl
  | b :: l => by
    simp only [insS, List.map_cons]
    split
    · rfl
    · rw [List.map_cons, insS_map l]
theorem isort_map {le : β → β → Bool} {f : α → β} : ∀ l : List α, (isort (fun x y => le (f x) (f y)) l).map f = isort le (l.map f)
  | [] => rfl
  | a :: l => by
    show (insS _ a (isort _ l)).map f = insS le (f a) (isort le (l.map f))
    rw [insS_map, isort_map l]
end
section
variable {X : Cx} {L : Ly X.K} {Wx : WX} {B : Addr → Prop} {W W1 W' : WM} {H H1 H' : Hp} {σ : L2.St} {ρ ρ' : Rho} {pos : Pos} {pins : List (Addr × Obj)} {s : Shared}
mutual
theorem rep_reads (I : Inv X pins σ H s) : ∀ {d : D} {v : V} {u : Value}, Rep L W H d v → RelV v u → okS d = true → ∃ as, Reads s.heap u (encD d) as
  | .non, v, u, a, r, _ => by
    cases (show v = _ from a)
    obtain rfl : u = _ := r
    exact ⟨_, .none⟩
  | .bl b, v, u, a, r, _ => by
    cases (show v = _ from a)
    obtain rfl : u = _ := r
    exact ⟨_, .bool b⟩
  | .int i, v, u, a, r, _ => by
    cases (show v = _ from a)
    obtain ⟨t, rfl⟩ := r
    exact ⟨_, .int i t⟩
  | .str x, v, u, a, r, _ => by
    cases (show v = _ from a)
    obtain ⟨t, rfl⟩ := r
    exact ⟨_, .str x t⟩
  | .wld _, _, _, _, _, o => by simp [okS] at o
  | .node .lst xs, v, u, h, r, o => by
    obtain ⟨a, vs, rfl, ⟨od, ha⟩, hr⟩ := h
    cases r
    obtain ⟨its, rv, ⟨ob, n, e, c, _, hd⟩, hz⟩ := I.list (show SqL X.K H a vs from .inl (.inr ⟨od, ha⟩))
    obtain ⟨as, R⟩ := reps_reads I hr rv (by simpa [okS] using o)
    refine ⟨a :: as, ?_⟩
    simp only [encD]
    exact .list e c hd (by simpa using R)
  | .node .tup xs, v, u, h, r, o => by
    obtain ⟨a, vs, rfl, ha, hr⟩ := h
    cases r
    obtain ⟨its, rv, ⟨ob, e, c, n, hd⟩, hz⟩ := I.tuple (show SqT X.K H a vs from ha)
    obtain ⟨as, R⟩ := reps_reads I hr rv (by simpa [okS] using o)
    refine ⟨as, ?_⟩
    simp only [encD]
    exact .tuple e c hd (by simpa using R)
  | .node (.dct _) _, _, _, _, _, o => by simp [okS] at o
  | .node (.dctT _) _, _, _, _, _, o => by simp [okS] at o
  | .node (.obj _) _, _, _, _, _, o => by simp [okS] at o
theorem reps_reads (I : Inv X pins σ H s) : ∀ {ds : List D} {vs : List V} {us : List Value}, RepL L W H ds vs → Vals vs us → okSL ds = true → ∃ as, ReadsAll s.heap us (encL ds) as
  | [], vs, us, h, r, _ => by
    obtain rfl : vs = [] := h
    cases r
    exact ⟨[], .nil⟩
  | d :: ds, vs, us, ⟨v, w, e, h1, h2⟩, r, o => by
    subst e
    cases r with
    | cons r1 r2 =>
      simp only [okSL, Bool.and_eq_true] at o
      obtain ⟨a1, q1⟩ := rep_reads I h1 r1 o.1
      obtain ⟨a2, q2⟩ := reps_reads I h2 r2 o.2
      exact ⟨a1 ++ a2, .cons q1 q2⟩
end
theorem okSL_mem : ∀ {ds : List D} {d : D}, okSL ds = true → d ∈ ds → okS d = true
  | d :: ds, e, o, m => by
    simp only [okSL, Bool.and_eq_true] at o
    rcases List.mem_cons.mp m with rfl | m
    · exact o.1
    · exact okSL_mem o.2 m
/-- data, value, concrete value -/
theorem eachZ : ∀ {ds : List D} {vs : List V} {us : List Value}, RepL L W H ds vs → Vals vs us → EachIs (fun u (b : D × V) => RelV b.2 u ∧ Rep L W H b.1 b.2) us (ds.zip vs)
  | [], vs, us, h, r => by
    obtain rfl : vs = [] := h
    cases r
    exact .nil
  | d :: ds, vs, us, ⟨v, w, e, h1, h2⟩, r => by
    subst e
    cases r with
    | cons r1 r2 => exact .cons ⟨r1, h1⟩ (eachZ h2 r2)
theorem unZ : ∀ {us : List Value} {bs : List (D × V)}, EachIs (fun u (b : D × V) => RelV b.2 u ∧ Rep L W H b.1 b.2) us bs → Vals (bs.map (·.2)) us ∧ RepL L W H (bs.map (·.1)) (bs.map (·.2))
  | _, _, .nil => ⟨.nil, rfl⟩
  | _, _, .cons ⟨h1, h2⟩ t => by
    obtain ⟨q1, q2⟩ := unZ t
    exact ⟨.cons h1 q1, ⟨_, _, rfl, h2, q2⟩⟩
theorem each_mono' {α β : Type} {R R' : α → β → Prop} : ∀ {as : List α} {bs : List β}, EachIs R as bs → (∀ a b, b ∈ bs → R a b → R' a b) → EachIs R' as bs
  | _, _, .nil, _ => .nil
  | _, _, .cons h t, f => .cons (f _ _ List.mem_cons_self h) (each_mono' t fun a b m => f a b (List.mem_cons_of_mem _ m))
theorem sorted_D (hu : X.A.units + 64 < cLine) : CallR X (.builtin "sorted") (rF1 L sortO) := by
  intro pins s σ H xs us Q I r h
  obtain ⟨W, d, v, t, ds', rfl, wk, hr, e, q⟩ := h
  unfold sortO at e
  split at e
  case h_2 => cases e
  case h_1 x ds =>
    split at e
    case isFalse => cases e
    case isTrue ok =>
      cases e
      unfold sortOk at ok
      simp only [Bool.and_eq_true, decide_eq_true_eq] at ok
      obtain ⟨⟨⟨⟨ok1, ok2⟩, ok3⟩, ok4⟩, ok5⟩ := ok
      obtain ⟨a, vs, rfl, ha, ra⟩ := hr.lst
      obtain ⟨u, rfl, ru⟩ := vals1 r
      cases ru
      obtain ⟨its, rv, p, hz⟩ := I.list (show SqL X.K H a vs from rd_sql ha)
      have ez := eachZ ra rv
      have lz : (ds.zip vs).map (·.1) = ds := List.map_fst_zip (by rw [ra.length]; exact Nat.le_refl _)
      have mz : ∀ b ∈ ds.zip vs, b.1 ∈ ds := fun b hb => by rw [← lz]; exact List.mem_map.mpr ⟨b, hb, rfl⟩
      have menc : (ds.zip vs).map (fun b => encD b.1) = ds.map encD := by
        rw [show (fun (b : D × V) => encD b.1) = encD ∘ Prod.fst from rfl, ← List.map_map, lz]
      refine sorted_data (enc := fun b : D × V => encD b.1) p.isList ez (each_mono' ez fun u b m z => rep_reads I z.2 z.1 (okSL_mem ok1 (mz b m))) ?_ ?_ ?_ ?_ fun out lo eo => ?_
      · rw [menc]
        intro d hd d' hd'
        have := List.all_eq_true.mp ok2 d hd
        exact List.all_eq_true.mp this d' hd'
      · rw [menc]
        rcases Bool.or_eq_true_iff.mp ok3 with k | k
        · refine .inl fun d hd => ?_
          have := List.all_eq_true.mp k d hd
          unfold tupHd at this
          split at this
          · exact ⟨_, _, rfl⟩
          · cases this
        · refine .inr fun d hd => ?_
          have := List.all_eq_true.mp k d hd
          unfold othHd at this
          split at this
          · cases this
          · cases this
          · rename_i h1 h2
            exact ⟨h2, fun xs => h1 xs⟩
      · rw [List.length_zip, ra.length, Nat.min_self, sz_eq]
        exact ok4
      · intro b hb
        have := List.all_eq_true.mp ok5 (encD b.1) (List.mem_map.mpr ⟨b.1, mz b hb, rfl⟩)
        have := of_decide_eq_true this
        omega
      · obtain ⟨q1, q2⟩ := unZ eo
        have hT := sortLe_total (listOrd itemOrd) false (fun b : D × V => keyToks (encD b.1))
        have es : (ds.zip vs).mergeSort (dataLe false fun b : D × V => encD b.1) = isort (dataLe false fun b : D × V => encD b.1) (ds.zip vs) :=
          isort_eq (fun a b c h1 h2 => hT.trans a b c h1 h2) (fun a b => Bool.or_eq_true_iff.mpr (hT.total a b)) _
        have e1 : ((ds.zip vs).mergeSort (dataLe false fun b : D × V => encD b.1)).map (·.1) = isort leD ds := by
          rw [es]
          exact (isort_map (le := leD) (f := Prod.fst) (ds.zip vs)).trans (by rw [lz])
        rw [e1] at q2
        obtain ⟨ep, hep⟩ := sortedAll_at s.heap its (List.toArray out)
        have lq := q1.length
        refine ⟨.ref (s.heap.objs.size + 1), upd H (s.heap.objs.size + 1) (.lst _), I.laid (t' := s.toks) (fun b o e => sortedAll_old e) (Nat.le_succ _) ⟨?_, out, ep, q1, hep⟩, rfl, q _ (.lst _) _ (I.hok.fresh (Nat.le_succ _)) upd_same q2⟩
        rw [lq, lo, List.length_zip, ra.length, Nat.min_self, sz_eq]
        exact ok4
end
end DL

/-! D15: isinstance, max, min of two, instances. -/
namespace DL
open PySem PySem.Spec PyProof.Rows L2 PySem.W

def tyV {K : PySem.W.Frag} (L : Ly K) : Nat → Value
  | 0 => .type "NoneType"
  | 1 => .type "bool"
  | 2 => .type "int"
  | 3 => .type "str"
  | 4 => .type "list"
  | 5 => .type "tuple"
  | 6 => .type "dict"
  | n + 7 => .ref (L.CA n)
/-- what the text says of a class of instances -/
structure ObC (K : PySem.W.Frag) (C : Addr) : Prop where
  cl : Cls K C
  ha : PySem.W.findIn K (.ref C) "__class__" = some (some (.builtin "object.__class__"))
  hn : PySem.W.specialIn K (.builtin "object.__class__") "__get__" = some (some (.builtin "getset_descriptor.__get__"))
  htk : PySem.W.takesIn K (.builtin "object.__class__") = some true
  hm : PySem.W.mroIn K C (.type "object") = some true
/-- isinstance's answers for the class u, by the type's number -/
def IsiA {K : PySem.W.Frag} (L : Ly K) (u : Value) (ans : Nat → Option Bool) : Prop := ∀ k b, ans k = some b → PySem.W.kitOne K (tyV L k) u = some b ∧ ∀ c, k = c + 7 → ObC K (L.CA c)
section
variable {X : Cx} {L : Ly X.K} {Wx : WX} {B : Addr → Prop} {W W1 W' : WM} {H H1 H' : Hp} {σ : L2.St} {ρ ρ' : Rho} {pos : Pos} {pins : List (Addr × Obj)} {s : Shared}
theorem ins_rd {a C dx : Addr} {fs : List (Str × V)} (I : Inv X pins σ H s) (e : Rd H a (.ins C dx fs)) : ∃ mA, ObjM s.heap a dx C mA ∧ ∀ f, RelO (fs.lookup f) (mA f) := by
  have key : ObjOk X.prog X.w H s.heap a (.ins C dx fs) := by
    rcases e with e | ⟨o, e⟩
    · exact I.hok a _ e
    · exact (I.hok a _ e).2
  obtain ⟨d, z, ne, ob, mA, n, r, q⟩ := key
  exact ⟨mA, ⟨ob, n, ne⟩, r⟩
theorem isi_kit {d : D} {v : V} {u : Value} {k : Nat} (I : Inv X pins σ H s) (r : RelV v u) (hr : RepP L W H d v) (e : tyD d = some k) (hc : ∀ c, k = c + 7 → ObC X.K (L.CA c)) :
    ∃ P : Heap → Prop, PySem.W.KitX X.K u (tyV L k) P ∧ P s.heap ∧ u ≠ .builtin "__main__.__loader__#opaque" := by
  cases d with
  | non => cases e; rw [hr.non] at r; exact kit_of (H := H) I r (.base .non)
  | bl b => cases e; rw [hr.bl] at r; exact kit_of (H := H) I r (.base (.bl b))
  | int i => cases e; rw [hr.int] at r; exact kit_of (H := H) I r (.base (.int i))
  | str x => cases e; rw [hr.str] at r; exact kit_of (H := H) I r (.base (.str x))
  | wld => cases e
  | node t ds =>
    cases t with
    | lst =>
      cases e
      obtain ⟨a, vs, rfl, ha, _⟩ := hr.lst
      rcases ha with ha | ⟨o, ha⟩
      · exact kit_of I r (.base (.lst ha))
      · exact kit_of I r (.base (.frz ha))
    | tup =>
      cases e
      obtain ⟨a, vs, rfl, ha, _⟩ := hr.tup
      rcases ha with (ha | ⟨o, ha⟩) | ⟨o, its, n, hk, hc, _⟩
      · exact kit_of I r (.base (.tup ha))
      · exact kit_of I r (.fTuple ha)
      · exact kit_of (H := H) I r (.kTuple hk hc)
    | dct ks =>
      cases e
      obtain ⟨a, vs, rfl, _, ha, _⟩ := hr.dct
      rcases ha with ha | ⟨o, ha⟩
      · exact kit_of I r (.base (.dK ha))
      · exact kit_of I r (.fDict ha)
    | dctT ks =>
      cases e
      have ha : ∃ a kvs, v = .ref a ∧ Rd H a (.dT kvs) := by
        rcases hr with ⟨a, vs, rfl, ⟨_, o, ha⟩, _⟩ | ⟨t, ds', a, vs, q, rfl, h1, _⟩
        · exact ⟨a, _, rfl, .inr ⟨o, ha⟩⟩
        · cases q
          exact ⟨a, _, rfl, .inl h1.2⟩
      obtain ⟨a, kvs, rfl, ha | ⟨o, ha⟩⟩ := ha
      · exact kit_of I r (.base (.dT ha))
      · cases r
        obtain ⟨_, _, _, xs, _, ob, es, ep, h1, h2, _⟩ := (show ObjOk X.prog X.w H s.heap a (.frz o (.dT kvs)) from I.hok a _ ha)
        exact ⟨_, PySem.W.kitx_dict, ⟨ob, h1, h2.1⟩, fun z => nomatch z⟩
    | obj c =>
      have e' : k = c + 7 := by cases e; omega
      subst e'
      have oc := hc c rfl
      obtain ⟨a, vs, dx, rfl, _, ha, _⟩ := hr.obj
      cases r
      obtain ⟨mA, O, _⟩ := ins_rd I ha
      obtain ⟨od, J, _⟩ := O.look
      exact ⟨_, PySem.W.kitx_own (oc.cl.get _) oc.cl.hd oc.ha oc.hn oc.htk oc.hm, J, fun z => nomatch z⟩
/-- isinstance(x, c) -/
def rIsiD {K : PySem.W.Frag} (L : Ly K) (cv : V) (ans : Nat → Option Bool) : List V → Hp → VK → Prop := fun xs H Q => ∃ W d v k b, xs = [v, cv] ∧ RepP L W H d v ∧ tyD d = some k ∧ ans k = some b ∧ Q (.bl b) H
theorem isi_D {cv : V} {u : Value} {ans : Nat → Option Bool} (hk : ClsV cv u) (ha : IsiA L u ans) : CallR X (.builtin "isinstance") (rIsiD L cv ans) := by
  intro pins s σ H xs us Q I r h
  obtain ⟨W, d, v, k, b, rfl, hr, e, e2, q⟩ := h
  obtain ⟨u1, u2, rfl, r1, r2⟩ := vals2 r
  have e3 := hk.eq r2
  subst e3
  obtain ⟨h1, h2⟩ := ha k b e2
  obtain ⟨P, Z, p, hx⟩ := isi_kit I r1 hr e h2
  exact PySem.W.kia_one Z I.kIn p h1 hx fun tk => ⟨.bl b, H, I.tok tk, rfl, q⟩
/-- isinstance(x, (c, ..)), the tuple just made -/
def rIsiTD {K : PySem.W.Frag} (L : Ly K) (cvs : List V) (ans : Nat → Option Bool) : List V → Hp → VK → Prop := fun xs H Q => ∃ W d v tp k b, xs = [v, .ref tp] ∧ H tp = some (.tup cvs) ∧ RepP L W H d v ∧ tyD d = some k ∧ ans k = some b ∧ Q (.bl b) H
def IsiAT {K : PySem.W.Frag} (L : Ly K) (us : List Value) (ans : Nat → Option Bool) : Prop := ∀ k b, ans k = some b → PySem.W.kitAny K (tyV L k) us = some b ∧ ∀ c, k = c + 7 → ObC K (L.CA c)
theorem isi_TD {cvs : List V} {ws : List Value} {ans : Nat → Option Bool} (hk : Paired ClsV cvs ws) (ha : IsiAT L ws ans) : CallR X (.builtin "isinstance") (rIsiTD L cvs ans) := by
  intro pins s σ H xs us Q I r h
  obtain ⟨W, d, v, tp, k, b, rfl, hT, hr, e, e2, q⟩ := h
  obtain ⟨u1, u2, rfl, r1, r2⟩ := vals2 r
  cases (show u2 = Value.ref tp from r2)
  obtain ⟨h1, h2⟩ := ha k b e2
  obtain ⟨P, Z, p, hx⟩ := isi_kit I r1 hr e h2
  obtain ⟨_, its, rv, ⟨cls, dd, data, sl⟩, g1, g2, n, g3⟩ := (show ObjOk X.prog X.w H s.heap tp (.tup cvs) from I.hok tp _ hT)
  have e3 := ClsV.all hk rv
  subst e3
  simp only at g2 g3
  subst g2 g3
  exact PySem.W.kia_tup Z I.kIn p g1 h1 hx fun tk => ⟨.bl b, H, I.tok tk, rfl, q⟩
theorem isi_of {cv : V} {ans : Nat → Option Bool} {m : EM D} {Q : VK} (h : tE L Wx (eIsi ans m) σ H Q) : tCB (rIsiD L cv ans) (tCons (tP L Wx m) (tCons (tC cv) tNil)) σ H Q := by
  obtain ⟨B, W, ρ, R, q⟩ := h
  refine ⟨B, W, ρ, R, M.wp_mono (fun r p => p.imp fun d ρ1 W1 H1 S1 R1 z v hv => ?_) (wp_seqE q)⟩
  cases e : tyD d with
  | none => rw [e] at z; exact z.elim
  | some k =>
    cases e2 : ans k with
    | none => simp only [e, e2] at z; exact z.elim
    | some b =>
      simp only [e, e2] at z
      exact ⟨W1, d, v, k, b, rfl, hv, e, e2, wp_retE R1 z _ rfl⟩
theorem d_isi {e c : Expr} {p : Pos} {cv : V} {u : Value} {ans : Nat → Option Bool} {m : EM D} (hk : ClsV cv u) (hA : IsiA L u ans) (hg : Gl X "isinstance") (hm : X.mg "isinstance" = none) (hv : bootBuiltins "isinstance" = some (.builtin "isinstance")) (ha : PE X e (tP L Wx m)) (hc : PE X c (tC cv))
    (he : starEach [e, c] X.env = (false, eval e X.env) :: starEach [c] X.env := by rfl) (he2 : starEach [c] X.env = (false, eval c X.env) :: starEach [] X.env := by rfl) : PE X (.Call (.Name "isinstance" p) [e, c] [] pos) (tE L Wx (eIsi ans m)) :=
  PE.weak (pe_callB (isi_D hk hA) hg hm hv (pa_cons ha (pa_cons hc pa_nil he2) he) (by decide) (by decide) he (by rw [he2]; rfl)) fun _ _ _ q => isi_of q
theorem isiT_of {cvs : List V} {ans : Nat → Option Bool} {m : EM D} {ta : TA} {Q : VK} (ht : ∀ (R : List V → Hp → Prop) (H : Hp), R cvs H → ta σ H R) (hz : cvs.length ≤ sz) (h : tE L Wx (eIsi ans m) σ H Q) : tCB (rIsiTD L cvs ans) (tCons (tP L Wx m) (tCons (tTup ta) tNil)) σ H Q := by
  obtain ⟨B, W, ρ, R, q⟩ := h
  refine ⟨B, W, ρ, R, M.wp_mono (fun r p => p.imp fun d ρ1 W1 H1 S1 R1 z v hv => ?_) (wp_seqE q)⟩
  cases e : tyD d with
  | none => rw [e] at z; exact z.elim
  | some k =>
    cases e2 : ans k with
    | none => simp only [e, e2] at z; exact z.elim
    | some b =>
      simp only [e, e2] at z
      refine ht _ _ ⟨by rw [sz_eq]; exact hz, fun p hp => ?_⟩
      have sm : Same H1 (upd H1 p (.tup cvs)) := sameN hp
      obtain ⟨R2, S2⟩ := R1.same sm
      exact ⟨W1, d, v, p, k, b, rfl, upd_same, hv.tr sm, e, e2, z W1 _ S2 R2 _ rfl⟩
theorem d_isiT {e : Expr} {cs : List Expr} {x1} {p tpos : Pos} {cvs : List V} {us : List Value} {ans : Nat → Option Bool} {m : EM D} {ta : TA} (hk : Paired ClsV cvs us) (hA : IsiAT L us ans) (hg : Gl X "isinstance") (hm : X.mg "isinstance" = none) (hv : bootBuiltins "isinstance" = some (.builtin "isinstance")) (ha : PE X e (tP L Wx m))
    (hc : PA X cs ta) (ht : ∀ (σ : L2.St) (R : List V → Hp → Prop) (H : Hp), R cvs H → ta σ H R) (hz : cvs.length ≤ sz)
    (he : starEach [e, .Tuple cs x1 tpos] X.env = (false, eval e X.env) :: starEach [.Tuple cs x1 tpos] X.env := by rfl) (he2 : starEach [.Tuple cs x1 tpos] X.env = (false, eval (.Tuple cs x1 tpos) X.env) :: starEach [] X.env := by rfl) : PE X (.Call (.Name "isinstance" p) [e, .Tuple cs x1 tpos] [] pos) (tE L Wx (eIsi ans m)) :=
  PE.weak (pe_callB (isi_TD hk hA) hg hm hv (pa_cons ha (pa_cons (pe_tup hc) pa_nil he2) he) (by decide) (by decide) he (by rw [he2]; rfl)) fun σ _ _ q => isiT_of (ht σ) hz q
/-! ### max, min of two -/
def rC2 {K : PySem.W.Frag} (L : Ly K) (g : D → D → Option D) : List V → Hp → VK → Prop := fun xs H Q => ∃ W d d' v v' res, xs = [v, v'] ∧ WOk L W H ∧ Rep L W H d v ∧ Rep L W H d' v' ∧ g d d' = some res ∧ ∀ H' w, Same H H' → Rep L W H' res w → Q w H'
theorem c2_of {g : D → D → Option D} {ma mb : EM D} {Q : VK} (h : tE L Wx (eBin g ma mb) σ H Q) : tCB (rC2 L g) (tCons (tE L Wx ma) (tCons (tE L Wx mb) tNil)) σ H Q := by
  obtain ⟨B, W, ρ, R, q⟩ := h
  refine ⟨B, W, ρ, R, M.wp_mono (fun r p => p.imp fun x ρ1 W1 H1 S1 R1 z v hv => ?_) (wp_seqE q)⟩
  refine ⟨B, W1, ρ1, R1, M.wp_mono (fun r p => p.imp fun y ρ2 W2 H2 S2 R2 z2 u hu => ?_) (wp_seqE z)⟩
  cases e : g x y with
  | none => rw [e] at z2; exact z2.elim
  | some d =>
    rw [e] at z2
    refine ⟨W2, x, y, v, u, d, rfl, R2.wok, hv.tr S2.tr, hu, e, fun H' w s hw => ?_⟩
    obtain ⟨R3, S3⟩ := R2.same s
    exact z2 W2 H' S3 R3 w hw
theorem d_b2 {id : String} {x : Str} {e f : Expr} {p : Pos} {g : D → D → Option D} {ma mb : EM D} (hc : CallR X (.builtin id) (rC2 L g)) (hg : Gl X x) (hm : X.mg x = none) (hv : bootBuiltins x = some (.builtin id)) (ha : PE X e (tE L Wx ma)) (hb : PE X f (tE L Wx mb))
    (hn : x ≠ "__name__" := by decide) (hdb : (x == ("__debug__" : Str)) = false := by decide) (he : starEach [e, f] X.env = (false, eval e X.env) :: starEach [f] X.env := by rfl) (he2 : starEach [f] X.env = (false, eval f X.env) :: starEach [] X.env := by rfl) : PE X (.Call (.Name x p) [e, f] [] pos) (tE L Wx (eBin g ma mb)) :=
  PE.weak (pe_callB hc hg hm hv (pa_cons ha (pa_cons hb pa_nil he2) he) hn hdb he (by rw [he2]; rfl)) fun _ _ _ q => c2_of q
theorem max2_D (hc : X.calm = true) : CallR X (.builtin "max") (rC2 L max2O) := CallR.weak (call_max2 hc) fun xs H Q h => by
  obtain ⟨W, d, d', v, v', res, rfl, wk, h1, h2, e, q⟩ := h
  unfold max2O at e
  split at e
  · cases e
    obtain rfl : v = _ := h1
    obtain rfl : v' = _ := h2
    exact ⟨_, _, rfl, q H _ same_refl rfl⟩
  · cases e
theorem min2_D (hc : X.calm = true) : CallR X (.builtin "min") (rC2 L min2O) := CallR.weak (call_min2 hc) fun xs H Q h => by
  obtain ⟨W, d, d', v, v', res, rfl, wk, h1, h2, e, q⟩ := h
  unfold min2O at e
  split at e
  · cases e
    obtain rfl : v = _ := h1
    obtain rfl : v' = _ := h2
    exact ⟨_, _, rfl, q H _ same_refl rfl⟩
  · cases e
/-! ### o.f -/
theorem lkF_rep : ∀ {fs : List Str} {ds : List D} {vs : List V} {f : Str} {d : D}, RepL L W H ds vs → lkF fs ds f = some d → ∃ v, (fs.zip vs).lookup f = some v ∧ Rep L W H d v
  | g :: fs, d :: ds, vs, f, e, r, h => by
    obtain ⟨v, w, rfl, h1, h2⟩ := r
    simp only [lkF] at h
    rw [List.zip_cons_cons, List.lookup_cons]
    cases hb : f == g with
    | true =>
      rw [hb] at h
      cases h
      exact ⟨v, rfl, h1⟩
    | false =>
      rw [hb] at h
      exact lkF_rep h2 h
  | [], _, _, _, _, _, h => by simp [lkF] at h
  | _ :: _, [], _, _, _, _, h => by simp [lkF] at h
theorem d_fld {e : Expr} {f : Str} {ok : Nat → Bool} {m : EM D} (hok : ∀ c, ok c = true → Cls X.K (L.CA c) ∧ NoAttr X.K (L.CA c) f) (he : PE X e (tP L Wx m)) (hb : attributeBase e f X.env (eval e X.env) = eval e X.env := by rfl) : PE X (.Attribute e f pos) (tE L Wx (eFld ok f m)) := by
  refine ⟨fun pins s σ H Q I h => ?_⟩
  obtain ⟨B, W, ρ, R, q⟩ := h
  refine attr_of hb (thn (he.run pins s σ H (fun v H1 => ∃ a C dx fs x, v = .ref a ∧ Rd H1 a (.ins C dx fs) ∧ Cls X.K C ∧ NoAttr X.K C f ∧ fs.lookup f = some x ∧ Q x H1) I ?_) fun u s1 ⟨v, H1, I1, r1, a, C, dx, fs, x, e1, hr, c, n, l, q1⟩ => ?_)
  · refine ⟨B, W, ρ, R, M.wp_mono (fun r p => p.imp fun d ρ1 W1 H1 S1 R1 z v hv => ?_) (wp_seqE q)⟩
    split at z
    case h_2 => exact z.elim
    case h_1 c ds =>
      split at z
      case isFalse => exact z.elim
      case isTrue hc =>
        cases e : lkF (cf c) ds f with
        | none => rw [e] at z; exact z.elim
        | some d =>
          rw [e] at z
          obtain ⟨a, vs, dx, rfl, _, ha, ra⟩ := hv.obj
          obtain ⟨x, hl, hx⟩ := lkF_rep ra e
          obtain ⟨k1, k2⟩ := hok c hc
          exact ⟨a, _, dx, _, x, rfl, ha, k1, k2, hl, wp_retE R1 z x hx⟩
  · subst e1
    obtain rfl : u = Value.ref a := r1
    obtain ⟨mA, O, rO⟩ := ins_rd I1 hr
    obtain ⟨w, hu, ru⟩ := RelO.some_of (v := x) (o := mA f) (by rw [← l]; exact rO f)
    exact get_map I1.kIn O (c.get f) c.hd n hu (handed_of ru) ⟨x, H1, I1.tok _, ru, q1⟩
end
end DL

/-! D16: methods of instances, instances are made. -/
namespace DL
open PySem PySem.Spec PyProof.Rows L2 PySem.W

/-- the same, but own instances may stand at x alone -/
abbrev pinL {K : PySem.W.Frag} (L : Ly K) (x : Addr) : Ly K := { L with opin := fun a => a = x }
section
variable {K : PySem.W.Frag} {L : Ly K} {x : Addr} {W : WM} {H : Hp}
theorem at_pin {a : Addr} {t : Tag} {vs : List V} : At (pinL L x) H a t vs = At L H a t vs := by
  cases t <;> rfl
mutual
theorem rep_pin : ∀ {d : D} {v : V}, Rep (pinL L x) W H d v ↔ Rep L W H d v
  | .non, _ => Iff.rfl
  | .bl _, _ => Iff.rfl
  | .int _, _ => Iff.rfl
  | .str _, _ => Iff.rfl
  | .wld _, _ => Iff.rfl
  | .node t ds, v => by
    constructor
    · rintro ⟨a, vs, e, h1, h2⟩
      exact ⟨a, vs, e, by rw [← at_pin (x := x)]; exact h1, repl_pin.mp h2⟩
    · rintro ⟨a, vs, e, h1, h2⟩
      exact ⟨a, vs, e, by rw [at_pin]; exact h1, repl_pin.mpr h2⟩
theorem repl_pin : ∀ {ds : List D} {vs : List V}, RepL (pinL L x) W H ds vs ↔ RepL L W H ds vs
  | [], _ => Iff.rfl
  | d :: ds, vs => by
    constructor
    · rintro ⟨v, r, e, h1, h2⟩
      exact ⟨v, r, e, rep_pin.mp h1, repl_pin.mp h2⟩
    · rintro ⟨v, r, e, h1, h2⟩
      exact ⟨v, r, e, rep_pin.mpr h1, repl_pin.mpr h2⟩
end
theorem erep_pin {e : Err} {c : Value} : ∀ {dd : Option Addr}, ERep (pinL L x) W H e c dd ↔ ERep L W H e c dd
  | none => Iff.rfl
  | some a => by
    constructor
    · rintro ⟨h1, vs, h2, h3, h4⟩
      exact ⟨h1, vs, h2, h3, repl_pin.mp h4⟩
    · rintro ⟨h1, vs, h2, h3, h4⟩
      exact ⟨h1, vs, h2, h3, repl_pin.mpr h4⟩
theorem ctr_pin {W' : WM} {H' : Hp} : CTr (pinL L x) W H W' H' ↔ CTr L W H W' H' := ⟨fun c => ⟨c.same, c.wk, c.wn, c.ok⟩, fun c => ⟨c.same, c.wk, c.wn, c.ok⟩⟩
theorem sp_pin {n : Nat} {m : FM} {vs : List V} {Q : VK} {E : XK} (h : spD (pinL L x) n m vs H Q E) : spD L n m vs H Q E := by
  obtain ⟨hl, W, ds, wk, r, q⟩ := h
  refine ⟨hl, W, ds, wk, repl_pin.mp r, M.wp_mono (fun r p => ?_) q⟩
  cases r with
  | ok d => exact fun W' H' v c rv => p W' H' v (ctr_pin.mpr c) (rep_pin.mpr rv)
  | error e => exact fun W' H' cc dd c er => p W' H' cc dd (ctr_pin.mpr c) (erep_pin.mpr er)
/-- a def that keeps its promise keeps it there -/
theorem fn_pin {P : Program} {w : World} {mg : Str → Option Value} {base : Heap} {k n : Nat} {f : Addr} {fd : FuncData} {ps : List Str} {m : FM} (F : FnOk P w K mg base (L2.CX P w) k f fd ps (spD L n m)) : FnOk P w K mg base (L2.CX P w) k f fd ps (spD (pinL L x) n m) := F.imp fun _ _ _ _ q => sp_pin q
theorem bn_pin {fd : FuncData} {ps ks : List Str} {n : Nat} {gD : List D → List D → List D} (b : BnD K L fd ps n ks gD) : BnD K (pinL L x) fd ps n ks gD := ⟨fun s us ws vs zs h1 h2 h3 h4 h5 => by
  obtain ⟨full, fv, a1, a2, a3, a4⟩ := b.to s us ws vs zs h1 h2 h3 h4 h5
  exact ⟨full, fv, a1, a2, a3, fun W H ds es r1 r2 => repl_pin.mpr (a4 W H ds es (repl_pin.mp r1) (repl_pin.mp r2))⟩⟩
end

section
variable {X : Cx} {L : Ly X.K} {Wx : WX} {B : Addr → Prop} {W W1 W' : WM} {H H1 H' : Hp} {σ : L2.St} {ρ ρ' : Rho} {pos : Pos} {pins : List (Addr × Obj)} {s : Shared}
/-! ### o.m(..) -/
structure MethD {P : Program} {w : World} {K : PySem.W.Frag} {mg : Str → Option Value} {base : Heap} {A : Around} (L : Ly K) (name : Str) (np : Nat) (ks : List Str) (gD : List D → List D → List D) (c : Nat) (m : FM) : Prop where
  ex : ∃ f fd ps k, Cls K (L.CA c) ∧ Meth K (L.CA c) name f ∧ (cf c).contains name = false ∧ FnOk P w K mg base (L2.CX P w) k f fd ps (spD L ps.length m) ∧ Room k A ∧ BnD K L fd ps (np + 1) ks gD
theorem zip_lookup : ∀ {fs : List Str} {vs : List V} {f : Str}, fs.contains f = false → (fs.zip vs).lookup f = none
  | [], _, _, _ => by simp
  | g :: fs, [], f, _ => by simp
  | g :: fs, v :: vs, f, h => by
    rw [List.contains_cons, Bool.or_eq_false_iff] at h
    rw [List.zip_cons_cons, List.lookup_cons, h.1]
    exact zip_lookup h.2
theorem getmeth_rd {a C dx g : Addr} {fs : List (Str × V)} {m : Str} {pl : Sem Bool} {Q : Value × List Value → Shared → Prop} (I : Inv X pins σ H s) (e : Rd H a (.ins C dx fs)) (c : Cls X.K C) (k : Meth X.K C m g) (l : fs.lookup m = none)
    (h : Q (.ref g, [.ref a]) s) : wpAny (model X.prog X.w) X.A (getMethod (.ref a) m pl) Q X.xe s := by
  obtain ⟨mA, O, r⟩ := ins_rd I e
  have hn : mA m = none := RelO.none_of (by rw [← l]; exact r m)
  exact get_meth I.kIn O (c.get m) k.at_ k.fn hn h
theorem d_meth {o : Expr} {name : Str} {apos : Pos} {args : List Expr} {kws : List Keyword} {ks : List Str} {np : Nat} {gD : List D → List D → List D} {disp : Nat → Option FM} {mo : EM D} {ma : EM (List D × List D)} {pl : Sem Bool}
    (hd : ∀ c m, disp c = some m → MethD (P := X.prog) (w := X.w) (mg := X.mg) (base := X.base) (A := X.A) L name np ks gD c m) (tk : Takes X Wx) (ho : PE X o (tE L Wx mo)) (hc : PCl X pos args kws ks (tCl L Wx ma))
    (ht : eval (.Call (.Attribute o name apos) args kws pos) X.env = (do
      let ov ← eval o X.env
      standAt apos.atName
      let (f, first) ← holding [ov] (getMethod ov name pl)
      callWith pos f first (backTo pos (starEach args X.env)) (backToKw pos (keywordEach kws X.env))) := by rfl) :
    PE X (.Call (.Attribute o name apos) args kws pos) (tE L Wx (eMeth disp np ks.length gD mo ma)) := by
  refine ⟨fun pins s σ H Q I h => ?_⟩
  obtain ⟨B, W, ρ, R, q⟩ := h
  refine PySem.W.methodCall_KW (pl := pl) (thn (ho.run pins s σ H (fun v H1 => ∃ a C dx fs f fd ps k m, v = .ref a ∧ Rd H1 a (.ins C dx fs) ∧ Cls X.K C ∧ Meth X.K C name f ∧ fs.lookup name = none ∧
    FnOk X.prog X.w X.K X.mg X.base (L2.CX X.prog X.w) k f fd ps (spD L ps.length m) ∧ Room k X.A ∧ BnD X.K L fd ps (np + 1) ks gD ∧
    tCl L Wx ma σ H1 (fun vs zs H' => vs.length = np ∧ zs.length = ks.length ∧ ∀ fv, fv.length = ps.length → (∀ W H ds es, RepL L W H ds (v :: vs) → RepL L W H es zs → RepL L W H (gD ds es) fv) → spD L ps.length m fv H' Q (WE Wx σ))) I ?_)
    fun u s1 ⟨v, H1, I1, r1, a, C, dx, fs, f, fd, ps, k, m, e1, hr, c, hm, l, F, rm, hb, q1⟩ => ?_) ht
  · refine ⟨B, W, ρ, R, M.wp_mono (fun r p => p.imp fun d ρ1 W1 H1 S1 R1 z v hv => ?_) (wp_seqE q)⟩
    split at z
    case h_2 => exact z.elim
    case h_1 c ds =>
      cases e : disp c with
      | none => simp only [e] at z; exact z.elim
      | some m =>
        simp only [e] at z
        obtain ⟨f, fd, ps, k, h1, h2, h3, h4, h5, h6⟩ := (hd c m e).ex
        obtain ⟨a, vs, dx, rfl, _, ha, ra⟩ := RepP.obj (.inl hv)
        refine ⟨a, _, dx, _, f, fd, ps, k, m, rfl, ha, h1, h2, zip_lookup h3, h4, h5, h6, ?_⟩
        refine ⟨B, W1, ρ1, R1, M.wp_mono (fun r p => p.imp fun xs ρ2 W2 H2 S2 R2 z2 us zs hus hzs => ?_) (wp_seqE z)⟩
        split at z2
        case isFalse => exact z2.elim
        case isTrue hl =>
          refine ⟨by rw [hus.length]; exact hl.1, by rw [hzs.length]; exact hl.2, fun fv hf hg => spD_of R2 hf (hg W2 H2 (.node (.obj c) ds :: xs.1) xs.2 ⟨_, _, rfl, hv.tr S2.tr, hus⟩ hzs) z2 fun d W' H' v _ _ rv hq => hq v rv⟩
  · subst e1
    obtain rfl : u = Value.ref a := r1
    refine getmeth_rd I1 hr c hm l ?_
    refine hc.run (.ref f) [.ref a] pins s1 σ H1 _ _ hm.kp I1 q1 fun us ws vs zs s' H' I' r rz ⟨l1, l2, hR⟩ => ?_
    obtain ⟨full, fv, b, lf, rf, hgD⟩ := hb.to s' (.ref a :: us) ws (.ref a :: vs) zs I'.kIn (by rw [List.length_cons, ← r.length, l1]) (rz.length.symm.trans l2) (.cons rfl r) rz
    exact run_fnD F rm tk b I' rf (hR fv (rf.length.trans lf) hgD)
/-! ### C(..) -/
/-- __init__'s promise: the new instance stands at x, empty; then its fields -/
def spI {K : PySem.W.Frag} (L : Ly K) (c n : Nat) (mi : FMI) : Sp := fun vs H Q E => ∃ x dx args, vs = .ref x :: args ∧ vs.length = n ∧ H x = some (.ins (L.CA c) dx []) ∧ ∃ W ds, WOk L W H ∧ W x = none ∧ RepL L W H ds args ∧ (mi ds).wp fun r => match r with
  | .ok fs => ∀ W' H' us dx', (∀ b o, H b = some o → b ≠ x → W b = none → H' b = some o) → (∀ b k, W b = some k → W' b = some k) → (∀ b, (W' b).isSome = true → (W b).isSome = true ∨ H b = none) → WOk L W' H' →
    (cf c).length = us.length → H' x = some (.ins (L.CA c) dx' ((cf c).zip us)) → RepL L W' H' fs us → Q .non H'
  | .error e => ∀ W' H' cc dd, (∀ b o, H b = some o → b ≠ x → W b = none → H' b = some o) → (∀ b k, W b = some k → W' b = some k) → (∀ b, (W' b).isSome = true → (W b).isSome = true ∨ H b = none) → WOk L W' H' → ERep L W' H' e cc dd → E cc dd H'
/-- how an __init__'s parameters behind self are bound -/
structure BnI (K : PySem.W.Frag) (L : Ly K) (fd : FuncData) (ps : List Str) (np : Nat) (ks : List Str) (gD : List D → List D → List D) : Prop where
  to : ∀ (x : Addr) (us ws : List Value) (vs zs : List V), us.length = np → ws.length = ks.length → Vals vs us → Vals zs ws →
    ∃ full fv, (∀ s : Shared, K.In s.heap → BindsTo s fd ⟨.ref x :: us, ks.zip ws⟩ (ps.zip (.ref x :: full))) ∧ full.length + 1 = ps.length ∧ Vals fv full ∧ ∀ W H ds es, RepL L W H ds vs → RepL L W H es zs → RepL L W H (gD ds es) fv
theorem bi_all {K : PySem.W.Frag} {L : Ly K} {fd : FuncData} {ps : List Str} {np : Nat} (h : Binds K fd ps []) (hn : np + 1 = ps.length) : BnI K L fd ps np [] fun ds _ => ds := ⟨fun x us ws vs zs l1 l2 r1 r2 => by
  refine ⟨us, vs, fun s X => ?_, by rw [l1, hn], r1, fun W H ds es h1 _ => h1⟩
  have b := h s (.ref x :: us) X (by rw [List.append_nil, List.length_cons, l1, hn])
  rw [List.append_nil] at b
  rw [List.zip_nil_left]
  exact b⟩
theorem run_makeD {C f : Addr} {k : Nat} {fd : FuncData} {ps : List Str} {sp : Sp} {Q : VK} {us full : List Value} {kw : List (Str × Value)} {fv : List V} (M : Mk X.K C f) (F : FnOk X.prog X.w X.K X.mg X.base (L2.CX X.prog X.w) k f fd ps sp) (hr : Room (k + 1) X.A) (tk : Takes X Wx) (I : Inv X pins σ H s)
    (hb : ∀ s' : Shared, X.K.In s'.heap → BindsTo s' fd ⟨.ref (s.heap.objs.size + 1) :: us, kw⟩ (ps.zip (.ref (s.heap.objs.size + 1) :: full))) (rf : Vals fv full)
    (h : ∀ x dx, H x = none → H dx = none → dx ≠ x → sp (.ref x :: fv) (upd (upd H dx (.own x)) x (.ins C dx [])) (fun v H2 => v = .non ∧ Q (.ref x) H2) (WE Wx σ)) :
    wpAny (model X.prog X.w) X.A (call (.ref C) us kw) (EP X pins σ Q) X.xe s := by
  have hq := h (s.heap.objs.size + 1) s.heap.objs.size (I.hok.fresh (Nat.le_succ _)) (I.hok.fresh (Nat.le_refl _)) (Nat.ne_of_lt (Nat.lt_succ_self _))
  have I2 := Inv.made (C := C) I
  refine wpAny_call (make_map (f := f) I.kIn M.makes M.init (beq_iff_eq.mp M.fn) (codeAny_mono (F.run _ X.stack _ _ ⟨Value.ref (s.heap.objs.size + 1) :: us, kw⟩ (Value.ref (s.heap.objs.size + 1) :: full) _ _ _ (hr.make C us kw)
    (I2.env0.make C us kw) (hb _ I2.kIn) (.cons (show L2.RelV (.ref (s.heap.objs.size + 1)) _ from rfl) rf) hq) fun r s' hq' => ?_))
  cases r with
  | error e => exact passAt tk σ pins _ _ e s' I2 hq'
  | ok fl =>
    cases fl with
    | ret u =>
      obtain ⟨v, H', I3, rv, ev, q3⟩ := I2.after hq'
      subst ev
      exact ⟨rv, ⟨V.ref (s.heap.objs.size + 1), H', I3, rfl, q3⟩⟩
    | next => exact False.elim hq'
    | brk => exact False.elim hq'
    | cont => exact False.elim hq'
theorem make_R {c np nk n : Nat} {mi : FMI} {gD : List D → List D → List D} {ma : EM (List D × List D)} {Q : VK} (hop : ∀ a, L.opin a) (h : tF L Wx (eMake c mi np nk gD ma) σ H Q) : tCl L Wx ma σ H (fun vs zs H' => vs.length = np ∧ zs.length = nk ∧
    ∀ fv, fv.length + 1 = n → (∀ W H ds es, RepL L W H ds vs → RepL L W H es zs → RepL L W H (gD ds es) fv) → ∀ x dx, H' x = none → H' dx = none → dx ≠ x →
      spI L c n mi (.ref x :: fv) (upd (upd H' dx (.own x)) x (.ins (L.CA c) dx [])) (fun v H2 => v = .non ∧ Q (.ref x) H2) (WE Wx σ)) := by
  obtain ⟨B, W, ρ, R, q⟩ := h
  refine ⟨B, W, ρ, R, M.wp_mono (fun r p => p.imp fun xs ρ1 W1 H1 S1 R1 z us zs hus hzs => ?_) (wp_seqE q)⟩
  split at z
  case isFalse => exact z.elim
  case isTrue hl =>
    refine ⟨by rw [hus.length]; exact hl.1, by rw [hzs.length]; exact hl.2, fun fv hf hg x dx hx hdx hne => ?_⟩
    have rg := hg W1 H1 _ _ hus hzs
    have hx2 : (upd H1 dx (.own x)) x = none := by rw [upd_ne (Ne.symm hne)]; exact hx
    have sm : Same H1 (upd (upd H1 dx (.own x)) x (.ins (L.CA c) dx [])) := fun b o e => by
      rw [upd_ne (ne_of_none e hx), upd_ne (ne_of_none e hdx)]; exact e
    obtain ⟨R2, S2⟩ := R1.same sm
    obtain ⟨oa, RF⟩ := id R1
    have wx : W1 x = none := by
      cases e : W1 x with
      | none => rfl
      | some k =>
        have := RF.wmu e
        rw [hx] at this
        exact this.elim
    have nx : ¬ Own ρ1 oa x := fun z => by
      have := RF.omu z
      rw [hx] at this
      exact this.elim
    have hn2 : ∀ b, (upd (upd H1 dx (.own x)) x (.ins (L.CA c) dx [])) b = none → H1 b = none := fun b e => by
      cases q : H1 b with
      | none => rfl
      | some o =>
        rw [sm b o q] at e
        cases e
    refine ⟨x, dx, fv, rfl, by rw [List.length_cons]; exact hf, upd_same, W1, _, R2.wok, wx, rg.tr S2.tr, M.wp_mono (fun r p => ?_) (M.wp_bind.mp z)⟩
    cases r with
    | ok fs =>
      intro W' H' ws dx' k1 k2 k3 k4 k5 k6 k7
      have ct : CTr L W1 H1 W' H' := ⟨fun b o e w => k1 b o (sm b o e) (ne_of_none e hx) w, k2, fun b e => (k3 b e).imp id (hn2 b), k4⟩
      obtain ⟨R3, S3⟩ := RF.call ct
      have wx' : W' x = none := by
        cases e : W' x with
        | none => rfl
        | some k =>
          rcases k3 x (by rw [e]; rfl) with z | z
          · rw [wx] at z; cases z
          · rw [upd_same] at z; cases z
      refine ⟨rfl, p W' H' S3 ⟨oa, R3⟩ x ws (fun z => (RF.bo x z).1 hx) ⟨oa, R3.len, R3.ok, R3.sl, R3.inj, fun b hb => ?_, R3.ow⟩ ⟨Nat.le_of_eq k5.symm, dx', hop x, k6⟩ k7⟩
      rcases hb with hb | rfl
      · exact R3.bo b hb
      · exact ⟨by rw [k6]; simp, wx', nx⟩
    | error e =>
      intro W' H' cc dd k1 k2 k3 k4 k5
      have ct : CTr L W1 H1 W' H' := ⟨fun b o e w => k1 b o (sm b o e) (ne_of_none e hx) w, k2, fun b e => (k3 b e).imp id (hn2 b), k4⟩
      obtain ⟨R3, S3⟩ := RF.call ct
      exact p W' H' cc dd S3 ⟨oa, R3⟩ k5
theorem f_make {c k np : Nat} {f : Addr} {fd : FuncData} {ps ks : List Str} {mi : FMI} {gD : List D → List D → List D} {ma : EM (List D × List D)} {x : Str} {p : Pos} {args : List Expr} {kws : List Keyword} (hop : ∀ a, L.opin a) (M : Mk X.K (L.CA c) f)
    (F : FnOk X.prog X.w X.K X.mg X.base (L2.CX X.prog X.w) k f fd ps (spI L c ps.length mi)) (hr : Room (k + 1) X.A) (tk : Takes X Wx) (hg : Gl X x) (hm : X.mg x = some (.ref (L.CA c))) (hb : BnI X.K L fd ps np ks gD)
    (hc : PCl X pos args kws ks (tCl L Wx ma)) (hdb : (x == ("__debug__" : Str)) = false := by decide) : PE X (.Call (.Name x p) args kws pos) (tF L Wx (eMake c mi np ks.length gD ma)) := by
  refine ⟨fun pins s σ H Q I h => ?_⟩
  refine wpAny_Call_Name_kw (ld_glob I hg hm ?_ hdb)
  refine hc.run (.ref (L.CA c)) [] pins s σ H _ _ M.kp I (make_R (n := ps.length) hop h) fun us ws vs zs s' H' I' r rz ⟨l1, l2, hR⟩ => ?_
  obtain ⟨full, fv, b, lf, rf, hgD⟩ := hb.to (s'.heap.objs.size + 1) us ws vs zs (r.length.symm.trans l1) (rz.length.symm.trans l2) r rz
  exact run_makeD M F hr tk I' b rf fun x dx hx hdx hne => hR fv (by rw [rf.length]; exact lf) hgD x dx hx hdx hne
end
/-! ### an __init__ keeps its promise -/
theorem own0_some {ρ : Rho} {c : Nat} {fs : List D} (h : own0 ρ = some (c, fs)) : ρ[(0 : Nat)]? = some (.own (.obj c) fs) := by
  unfold own0 at h
  split at h
  · rename_i e
    cases h
    exact e
  · cases h
section
variable {P : Program} {w : World} {K : PySem.W.Frag} {mg : Str → Option Value} {base : Heap} {L : Ly K}
theorem fokI {x qual : Str} {params : Arguments} {body : List Stmt} {scope : Scope} {dvs : List V} {kws : List (Str × V)} {f : Addr} {fd : FuncData} {N ps : List Str} {k n c : Nat} {m : SM} (F : FunD K x qual params body scope dvs kws f fd) (S : FnScope N ps scope) (hn : N.length = n) (h1 : 1 ≤ n)
    (hb : ∀ (x : Addr) (cdv : Value) (A : Around) (outer : List Env) (s : Shared) (H : Hp) (E : XK), Room k (A.deeper (envOfC qual scope s.heap.objs.size f cdv)) →
      PSs (cxOf (L2.CX P w) P w K mg base N qual scope f cdv A outer s H E) body (tS (K := K) (pinL L x) (fun c dd _ H => E c dd H) m)) : FnOk P w K mg base (L2.CX P w) (k + 1) f fd ps (spI L c ps.length (runI c n m)) := by
  refine F.ok S (fun vs H Q E h => ?_) fun cdv A outer s H vs Q E hr h => ?_
  · obtain ⟨_, _, _, _, hl, _⟩ := h
    exact hl
  obtain ⟨y, dx, args, rfl, hl, hy, W, ds, wk, wy, r, q⟩ := h
  unfold runI at q
  rw [fcL_eq, fcR_eq] at q
  refine ⟨_, hb y cdv A outer s H E hr, ?_⟩
  have hp : ps.length ≤ n := by
    have := congrArg List.length S.pre
    rw [List.length_take] at this
    omega
  have R0 : Rel (pinL L y) (fun b => H b ≠ none ∧ W b = none) W H (L2.start N (.non :: args)) (startR n (.non :: ds)) :=
    startR_rel (L := pinL L y) N hn (by simp at hl ⊢; omega) wk ⟨.non, args, rfl, rfl, repl_pin.mpr r⟩
  obtain ⟨oa, RF⟩ := R0
  have hy0 : H y ≠ none ∧ W y = none := ⟨by rw [hy]; simp, wy⟩
  have R1 : RelF (pinL L y) (fun b => (H b ≠ none ∧ W b = none) ∧ b ≠ y) W H (L2.start N (.non :: args)) (startR n (.non :: ds)) oa := ⟨RF.len, RF.ok, RF.sl, RF.inj, fun b hb => RF.bo b hb.1, RF.ow⟩
  have hlen : 0 < (startR n (D.non :: ds)).length := by unfold startR; simp
  have R2 := R1.putO (t := .obj c) (ds := []) (vs := []) 0 hlen (fun z => z.2 rfl) wy (RF.bo y hy0).2.2 ⟨Nat.zero_le _, dx, rfl, by rw [List.zip_nil_right]; exact hy⟩ rfl
  have e0 : (L2.start N (.non :: args)).set 0 (some (.ref y)) = L2.start N (.ref y :: args) := by
    unfold L2.start
    simp
  rw [e0] at R2
  refine ⟨_, W, _, ⟨_, R2⟩, M.wp_mono (fun r p => ?_) (M.wp_bind.mp q)⟩
  have wn : ∀ {W' : WM}, (∀ b, (H b ≠ none ∧ W b = none) ∧ b ≠ y → W' b = none) → W' y = none → ∀ b, (W' b).isSome = true → (W b).isSome = true ∨ H b = none := fun {W'} h hy b e => by
    cases q : W b with
    | some k => exact .inl rfl
    | none =>
      refine .inr ?_
      cases z : H b with
      | none => rfl
      | some o =>
        by_cases hb : b = y
        · rw [hb, hy] at e; cases e
        · rw [h b ⟨⟨by rw [z]; simp, q⟩, hb⟩] at e; cases e
  have sm : ∀ {W' : WM} {H' : Hp}, Stp (fun b => (H b ≠ none ∧ W b = none) ∧ b ≠ y) W H W' H' → ∀ b o, H b = some o → b ≠ y → W b = none → H' b = some o := fun st b o e hb w => by
    rw [st.kb b ⟨⟨by rw [e]; simp, w⟩, hb⟩]; exact e
  cases r with
  | nx ρ =>
    intro W' H' σ' st R
    cases e0 : own0 ρ with
    | none => simp only [e0] at p; exact p.elim
    | some q0 =>
      obtain ⟨c', fs⟩ := q0
      simp only [e0] at p
      split at p
      case isFalse => exact p.elim
      case isTrue hc =>
        obtain ⟨rfl, hw⟩ := hc
        have e := own0_some e0
        obtain ⟨oa', RF'⟩ := R
        obtain ⟨k1, us, ⟨_, dx', hpin, k3⟩, k4⟩ := RF'.slo e
        have hpin : oa' 0 = y := hpin
        rw [hpin] at k3
        have wy' : W' y = none := RF'.ow y ⟨0, _, _, e, hpin⟩
        have lw : (cf c').length = us.length := by
          have : (cf c').length = fs.length := by simpa [whole] using hw
          rw [k4.length]; exact this
        exact p W' H' us dx' (sm st) st.tr.wld (wn (fun b hb => (RF'.bo b hb).2.1) wy') RF'.ok lw k3 (repl_pin.mp k4)
  | ex e ρ =>
    intro W' H' σ' cc dd st R er
    cases e0 : own0 ρ with
    | none => simp only [e0] at p; exact p.elim
    | some q0 =>
      obtain ⟨c', fs⟩ := q0
      simp only [e0] at p
      have e1 := own0_some e0
      obtain ⟨oa', RF'⟩ := R
      obtain ⟨k1, us, ⟨_, dx', hpin, k3⟩, k4⟩ := RF'.slo e1
      have hpin : oa' 0 = y := hpin
      have wy' : W' y = none := RF'.ow y ⟨0, _, _, e1, hpin⟩
      exact p W' H' cc dd (sm st) st.tr.wld (wn (fun b hb => (RF'.bo b hb).2.1) wy') RF'.ok (erep_pin.mp er)
  | rt d => exact p.elim
  | bk ρ => exact p.elim
  | ct ρ => exact p.elim
end
end DL

/-! D17: exceptions are raised and caught. -/
namespace DL
open PySem PySem.Spec PyProof.Rows L2 PySem.W

section
variable {K : PySem.W.Frag} {L L' : Ly K} {W : WM} {H : Hp}
theorem at_eq (hA : L'.CA = L.CA) {a : Addr} {t : Tag} {vs : List V} : At L' H a t vs ↔ At L H a t vs := by
  cases t with
  | obj c => unfold At; rw [hA]
  | _ => exact Iff.rfl
mutual
theorem rep_eq (hA : L'.CA = L.CA) : ∀ {d : D} {v : V}, Rep L' W H d v ↔ Rep L W H d v
  | .non, _ => Iff.rfl
  | .bl _, _ => Iff.rfl
  | .int _, _ => Iff.rfl
  | .str _, _ => Iff.rfl
  | .wld _, _ => Iff.rfl
  | .node t ds, v => by
    constructor
    · rintro ⟨a, vs, e, h1, h2⟩
      exact ⟨a, vs, e, (at_eq hA).mp h1, (repl_eq hA).mp h2⟩
    · rintro ⟨a, vs, e, h1, h2⟩
      exact ⟨a, vs, e, (at_eq hA).mpr h1, (repl_eq hA).mpr h2⟩
theorem repl_eq (hA : L'.CA = L.CA) : ∀ {ds : List D} {vs : List V}, RepL L' W H ds vs ↔ RepL L W H ds vs
  | [], _ => Iff.rfl
  | d :: ds, vs => by
    constructor
    · rintro ⟨v, r, e, h1, h2⟩
      exact ⟨v, r, e, (rep_eq hA).mp h1, (repl_eq hA).mp h2⟩
    · rintro ⟨v, r, e, h1, h2⟩
      exact ⟨v, r, e, (rep_eq hA).mpr h1, (repl_eq hA).mpr h2⟩
end
theorem erep_eq (hA : L'.CA = L.CA) {e : Err} {c : Value} : ∀ {dd : Option Addr}, ERep L' W H e c dd ↔ ERep L W H e c dd
  | none => by unfold ERep; rw [hA]
  | some a => by
    unfold ERep
    rw [hA]
    constructor
    · rintro ⟨h1, vs, h2, h3, h4⟩
      exact ⟨h1, vs, h2, h3, (repl_eq hA).mp h4⟩
    · rintro ⟨h1, vs, h2, h3, h4⟩
      exact ⟨h1, vs, h2, h3, (repl_eq hA).mpr h4⟩
end
/-- within an except suite -/
abbrev excL {K : PySem.W.Frag} (L : Ly K) (a : Addr) (c : Value) (d : Option Addr) : Ly K := { L with xa := a, xc := c, xd := d }
section
variable {K : PySem.W.Frag} {L : Ly K} {xa : Addr} {xc : Value} {xd : Option Addr} {W : WM} {H : Hp}
theorem rep_x {d : D} {v : V} : Rep (excL L xa xc xd) W H d v ↔ Rep L W H d v := rep_eq (L' := excL L xa xc xd) (L := L) rfl
theorem repl_x {d : List D} {v : List V} : RepL (excL L xa xc xd) W H d v ↔ RepL L W H d v := repl_eq (L' := excL L xa xc xd) (L := L) rfl
theorem erep_x {e : Err} {c : Value} {dd : Option Addr} : ERep (excL L xa xc xd) W H e c dd ↔ ERep L W H e c dd := erep_eq (L' := excL L xa xc xd) (L := L) rfl
theorem sp_exc {n : Nat} {m : FM} {vs : List V} {Q : VK} {E : XK} (h : spD (excL L xa xc xd) n m vs H Q E) : spD L n m vs H Q E := by
  obtain ⟨hl, W, ds, wk, r, q⟩ := h
  refine ⟨hl, W, ds, wk, repl_x.mp r, M.wp_mono (fun r p => ?_) q⟩
  cases r with
  | ok d => exact fun W' H' v c rv => p W' H' v ⟨c.same, c.wk, c.wn, c.ok⟩ (rep_x.mpr rv)
  | error e => exact fun W' H' cc dd c er => p W' H' cc dd ⟨c.same, c.wk, c.wn, c.ok⟩ (erep_x.mpr er)
theorem fn_exc {P : Program} {w : World} {mg : Str → Option Value} {base : Heap} {k n : Nat} {f : Addr} {fd : FuncData} {ps : List Str} {m : FM} (F : FnOk P w K mg base (L2.CX P w) k f fd ps (spD L n m)) : FnOk P w K mg base (L2.CX P w) k f fd ps (spD (excL L xa xc xd) n m) := F.imp fun _ _ _ _ q => sp_exc q
theorem bn_exc {fd : FuncData} {ps ks : List Str} {n : Nat} {gD : List D → List D → List D} (b : BnD K L fd ps n ks gD) : BnD K (excL L xa xc xd) fd ps n ks gD := ⟨fun s us ws vs zs h1 h2 h3 h4 h5 => by
  obtain ⟨full, fv, a1, a2, a3, a4⟩ := b.to s us ws vs zs h1 h2 h3 h4 h5
  exact ⟨full, fv, a1, a2, a3, fun W H ds es r1 r2 => repl_x.mpr (a4 W H ds es (repl_x.mp r1) (repl_x.mp r2))⟩⟩
theorem slot_as {x : Option (Option V)} {a : Addr} {s : Slot} (h : noX s = true) : SlotR (excL L xa xc xd) W H x a s ↔ SlotR L W H x a s := by
  cases s with
  | none => exact Iff.rfl
  | val d =>
    constructor
    · rintro ⟨v, h1, h2⟩
      exact ⟨v, h1, rep_x.mp h2⟩
    · rintro ⟨v, h1, h2⟩
      exact ⟨v, h1, rep_x.mpr h2⟩
  | own t ds =>
    have e : OAt (excL L xa xc xd) H a t = OAt L H a t := by
      funext vs
      cases t <;> rfl
    constructor
    · rintro ⟨h1, vs, h2, h3⟩
      exact ⟨h1, vs, by rw [← e]; exact h2, repl_x.mp h3⟩
    · rintro ⟨h1, vs, h2, h3⟩
      exact ⟨h1, vs, by rw [e]; exact h2, repl_x.mpr h3⟩
  | exc c fs => cases h
variable {B : Addr → Prop} {σ : L2.St} {ρ : Rho}
theorem noXs_get {i : Nat} {s : Slot} (h : noXs ρ = true) (e : ρ[i]? = some s) : noX s = true := List.all_eq_true.mp h s (List.mem_of_getElem? e)
theorem Rel.toX (R : Rel L B W H σ ρ) (h : noXs ρ = true) : Rel (excL L xa xc xd) B W H σ ρ := by
  obtain ⟨oa, R⟩ := R
  exact ⟨oa, R.len, R.ok, fun i s e => (slot_as (noXs_get h e)).mpr (R.sl i s e), R.inj, R.bo, R.ow⟩
theorem Rel.ofX (R : Rel (excL L xa xc xd) B W H σ ρ) (h : noXs ρ = true) : Rel L B W H σ ρ := by
  obtain ⟨oa, R⟩ := R
  exact ⟨oa, R.len, R.ok, fun i s e => (slot_as (noXs_get h e)).mp (R.sl i s e), R.inj, R.bo, R.ow⟩
theorem Rel.putX (R : Rel (excL L xa xc xd) B W H σ ρ) (i : Nat) {e : Err} (er : ERep L W H e xc xd) : Rel (excL L xa xc xd) B W H (σ.set i (some (.ref xa))) (ρ.set i (.exc e.c e.fs)) := by
  obtain ⟨oa, R⟩ := R
  have R1 := R.drop i (some (.ref xa))
  have os : ∀ {b}, Own (ρ.set i (.exc e.c e.fs)) oa b → Own ρ oa b := fun z => own_set (fun _ _ z => by cases z) z
  refine ⟨oa, by simp [R.len], R.ok, fun j s q => ?_, fun j k t1 ds1 t2 ds2 e1 e2 e3 => ?_, fun b z => ⟨(R.bo b z).1, (R.bo b z).2.1, fun y => (R.bo b z).2.2 (os y)⟩, fun b z => R.ow b (os z)⟩
  · by_cases hj : i = j
    · subst hj
      by_cases il : i < ρ.length
      · rw [List.getElem?_set_self il] at q
        cases q
        rw [List.getElem?_set_self (by rw [← R.len]; exact il)]
        exact ⟨rfl, erep_x.mpr er⟩
      · rw [List.getElem?_eq_none (by simpa using il)] at q
        cases q
    · rw [List.getElem?_set_ne hj] at q ⊢
      exact R.sl j s q
  · have f : ∀ {j t ds}, (ρ.set i (.exc e.c e.fs))[j]? = some (Slot.own t ds) → ρ[j]? = some (Slot.own t ds) := fun {j t ds} z => by
      by_cases hj : i = j
      · subst hj
        by_cases hi : i < ρ.length
        · rw [List.getElem?_set_self hi] at z
          cases z
        · rw [List.getElem?_eq_none (by simpa using hi)] at z
          cases z
      · rw [List.getElem?_set_ne hj] at z
        exact z
    exact R.inj j k t1 ds1 t2 ds2 (f e1) (f e2) e3
end
/-! ### raise -/
/-- an __init__(self, f) that keeps its one argument -/
def spX (C : Addr) (f : Str) : Sp := fun vs H Q _ => ∃ a v, vs = [.ref a, v] ∧ H a = some (exo a C none) ∧ ∀ dx, H dx = none → dx ≠ a → Q .non (upd (upd H dx (exd dx [(f, v)])) a (exo a C (some dx)))
section
variable {P : Program} {w : World} {K : PySem.W.Frag} {mg : Str → Option Value} {base : Heap}
theorem fokX {x qual : Str} {params : Arguments} {scope : Scope} {dvs : List V} {kws : List (Str × V)} {f : Addr} {fd : FuncData} {N ps : List Str} {k : Nat} {C : Addr} {fl : Str} {q1 q2 q3 q4 : Pos} {sn pn : Str} (T : OexC K C) (hno : PySem.W.findIn K (.ref C) fl = some none)
    (F : FunD K x qual params [.Assign [.Attribute (.Name sn q1) fl q2] (.Name pn q3) q4] scope dvs kws f fd) (S : FnScope N ps scope) (hN : N = [sn, pn]) (hl : ps.length = 2)
    (hb : ∀ (cdv : Value) (A : Around) (outer : List Env) (s : Shared) (H : Hp) (E : XK), PSs (cxOf (L2.CX P w) P w K mg base N qual scope f cdv A outer s H E) [.Assign [.Attribute (.Name sn q1) fl q2] (.Name pn q3) q4] (tOst K fl (tVar 0) (tVar 1))) :
    FnOk P w K mg base (L2.CX P w) (k + 1) f fd ps (spX C fl) := by
  refine F.ok S (fun vs H Q E h => ?_) fun cdv A outer s H vs Q E hr h => ⟨_, hb cdv A outer s H E, ?_⟩
  · obtain ⟨_, _, rfl, _⟩ := h
    exact hl.symm
  · obtain ⟨a, v, rfl, ha, q⟩ := h
    subst hN
    refine ⟨v, rfl, .ref a, rfl, a, C, rfl, T, hno, .inl ⟨ha, fun dx hx hne => ?_⟩⟩
    exact q dx hx hne
end
section
variable {X : Cx} {L : Ly X.K} {Wx : WX} {B : Addr → Prop} {W W1 W' : WM} {H H1 H' : Hp} {σ : L2.St} {ρ ρ' : Rho} {pos : Pos}
theorem s_raise {c k : Nat} {x f : Str} {fI : Addr} {fd : FuncData} {ps : List Str} {e : Expr} {m : EM (List D)} {p cpos : Pos} (hc : X.calm = true) (tk : Takes X Wx) (T : OexC X.K (L.CA c)) (hF : cf c = [f]) (iC : PySem.W.findIn X.K (.ref (L.CA c)) "__init__" = some (some (.ref fI))) (tI : PySem.W.typeIn X.K (.ref fI) = some (.type "function"))
    (F1 : FnOk X.prog X.w X.K X.mg X.base (L2.CX X.prog X.w) k fI fd ps (spX (L.CA c) f)) (hr : Room (k + 1) X.A) (hb : Binds X.K fd ps []) (hg : Gl X x) (hm : X.mg x = some (.ref (L.CA c))) (ha : PA X [e] (tAs L Wx m))
    (hdb : (x == ("__debug__" : Str)) = false := by decide) (he : starEach [e] X.env = (false, eval e X.env) :: starEach [] X.env := by rfl) : PS X (.Raise (some (.Call (.Name x p) [e] [] cpos)) none pos) (tS L Wx (sRaise c m)) := by
  have hx : Passes (L2.CX X.prog X.w) X (fun _ _ _ => False) := fun pins σ H s e s' I c => by
    obtain ⟨_, _, _, _, _, _, _, _, _, _, _, _, z⟩ := c
    exact z.elim
  refine PS.weak (L2.ps_raise hc tk (pmk_oex T iC tI F1 hr hb (dvs := []) .nil hx hg hm ha hdb he rfl)) fun E σ H q => ?_
  obtain ⟨B, W, ρ, R, q⟩ := q
  refine ⟨B, W, ρ, R, M.wp_mono (fun r p => p.imp fun ds ρ1 W1 H1 S1 R1 z vs hv => ?_) (wp_seqES q)⟩
  split at z
  case isFalse => exact z.elim
  case isTrue hl =>
    obtain ⟨d, rfl⟩ : ∃ d, ds = [d] := by
      match ds, hl with
      | [d], _ => exact ⟨d, rfl⟩
    obtain ⟨v, rfl, hv1⟩ := rep_ints1 hv
    refine ⟨by show 1 ≤ 1000; decide, fun a ha => ⟨a, v, rfl, upd_same, fun dx hx hne => ?_⟩⟩
    rw [upd_ne hne] at hx
    refine ⟨rfl, dx, [(f, v)], upd_same, by rw [upd_ne hne, upd_same], hx, ?_⟩
    have sm : Same H1 (upd (del (upd (upd (upd H1 a (exo a (L.CA c) none)) dx (exd dx [(f, v)])) a (exo a (L.CA c) (some dx))) a) dx (.xd [(f, v)])) := fun b o e => by
      have n1 := ne_of_none e hx
      have n2 := ne_of_none e ha
      rw [upd_ne n1, del_ne n2, upd_ne n2, upd_ne n1, upd_ne n2]
      exact e
    obtain ⟨R2, S2⟩ := R1.same sm
    exact z W1 _ σ _ _ S2 R2 ⟨rfl, [v], by rw [upd_same, hF]; rfl, by rw [hF]; rfl, ⟨v, [], rfl, hv1.tr S2.tr, rfl⟩⟩
end
end DL

/-! D18: try with any clauses, with or without names. -/
namespace DL
open PySem PySem.Spec PyProof.Rows L2 PySem.W

abbrev Cls3 := Value × Option Nat × (Addr → Value → Option Addr → TS)
def endsOff (i : Nat) (G : Ends) : Ends := ⟨fun τ K => G.nx (τ.set i none) K, G.rt, fun τ K => G.bk (τ.set i none) K, fun τ K => G.ct (τ.set i none) K⟩
/-- what the clauses ask of the exception cl, dd -/
def wMix (K : PySem.W.Frag) (Wo : WX) (G : Ends) : List Cls3 → WX
  | [] => Wo
  | (c, none, t) :: r => fun cl dd τ J => ∃ y, PySem.W.exmOne K cl c = some y ∧ (y = true → ∀ x, J x = none → t x cl dd G τ J) ∧ (y = false → wMix K Wo G r cl dd τ J)
  | (c, some i, t) :: r => fun cl dd τ J => ∃ y, PySem.W.exmOne K cl c = some y ∧ (y = true → ∀ x, J x = none → t x cl dd (endsOff i G) (τ.set i (some (.ref x))) J) ∧ (y = false → wMix K Wo G r cl dd τ J)
def SuiteOk (Y : Cx) (sts : List Stmt) (t : Addr → Value → Option Addr → TS) : Prop := ∀ (x : Addr) (ob : Obj) (cl : Value) (dd : Option Addr) (pl : List (Addr × Obj)), Zc cl dd ob → (∃ vs, ob.data = .fields vs) → PSs (Y.suite x ((x, ob) :: pl)) sts (t x cl dd)
inductive HdM (Y : Cx) : List ExceptHandler → List Cls3 → Prop
  | nil : HdM Y [] []
  | plain {cn : Str} {c : Value} {t : Addr → Value → Option Addr → TS} {st : Stmt} {sts : List Stmt} {p1 p2 : Pos} {hds : List ExceptHandler} {l : List Cls3} (nc : Names Y cn c) (so : SuiteOk Y (st :: sts) t) (r : HdM Y hds l) :
      HdM Y (.ExceptHandler (some (.Name cn p1)) none (st :: sts) p2 :: hds) ((c, none, t) :: l)
  | named {cn nm : Str} {i : Nat} {c : Value} {t : Addr → Value → Option Addr → TS} {st : Stmt} {sts : List Stmt} {p1 p2 : Pos} {hds : List ExceptHandler} {l : List Cls3} (nc : Names Y cn c) (hi : Y.N[i]? = some nm) (hk : Y.env.kindOf nm = some .local) (so : SuiteOk Y (st :: sts) t) (r : HdM Y hds l) :
      HdM Y (.ExceptHandler (some (.Name cn p1)) (some nm) (st :: sts) p2 :: hds) ((c, some i, t) :: l)
section
variable {Y : Cx} {bd : List Stmt} {hd : ExceptHandler} {hds : List ExceptHandler} {l : List Cls3} {pos : Pos} {tb : WX → TS} {Wo : WX}
theorem names_ev {pl : List (Addr × Obj)} {x : Addr} {τ : L2.St} {J : Hp} {z : Shared} {cn : Str} {c : Value} {p1 : Pos} (S : L2.Inv (Y.suite x pl) [] τ J z) (nc : Names Y cn c) {Q : Value → Shared → Prop} {E : Value → Shared → Prop} (q : Q c z) :
    wpAny (model Y.prog Y.w) (Y.A.mark (some (.ref x))) (eval (.Name cn p1) Y.env) Q E z := by
  obtain ⟨g1, g2, g3 | ⟨g3, g4, g5⟩⟩ := nc
  · exact ld_glob (X := Y.suite x pl) S g1 g3 q g2
  · exact ld_blt (X := Y.suite x pl) S g1 g3 g4 q g5 g2
theorem ps_mix (st0 : Y.stack = Y.env :: Y.outer) (fr0 : Y.env.frame = some Y.env.locals) (nd : Y.N.Nodup) (tk : L2.Takes Y Wo)
    (hbody : ∀ (Wi : WX) (pl : List (Addr × Obj)) (xe : Value → Shared → Prop), L2.Takes (Y.tr pl xe) Wi → PassesOwn (model Y.prog Y.w) Y.A Y.env xe → PSs (Y.tr pl xe) bd (tb Wi))
    (hh : HdM Y (hd :: hds) l) : PS Y (.Try bd (hd :: hds) [] [] pos) (fun G τ J => tb (wMix Y.K Wo G l) G τ J) := by
  refine ⟨fun pins z τ J G I hw => ?_⟩
  have okY := I.ok
  have frA : Y.A.frames = some (Y.env :: Y.outer) := by rw [okY.frames, st0]
  refine wpAny_Try_except ?_
  have B0 := hbody (wMix Y.K Wo G l) (Y.pn ++ pins) (fun e z1 => wpAny (model Y.prog Y.w) Y.A (noteFrame e Y.env) (fun _ z2 => wpAny (model Y.prog Y.w) Y.A (setFlight e none) (fun _ z3 => wpAny (model Y.prog Y.w) Y.A (handleBy e Y.env (hd :: hds)) (SP Y pins G) Y.xe z3) Y.xe z2) Y.xe z1)
  refine wpAny_mono ((B0 (fun u z' ex => ?_) PassesOwn.looking).run [] z τ J G (I.toTry _) hw) (fun fl z1 hsp => ?_) (fun e z1 he => he)
  · obtain ⟨x, Bg, zI, pins', τ', J', cl, dd, rfl, JI', nb, up, sky, nx, eos, eag, w⟩ := ex
    have JI : L2.Inv Y pins τ' J' zI := JI'.ofTry okY
    have sky1 : Sky Bg (Y.env :: Y.outer) x (Zc cl dd) Y.env.locals z'.heap := st0 ▸ sky
    show wpAny (model Y.prog Y.w) Y.A (noteFrame (.ref x) Y.env) _ _ _
    refine Sky.land Zc.steady frA fr0 sky1 fun g3 fly upp => ?_
    have J3 : L2.Inv Y pins τ' J' { z' with heap := g3 } := JI.landed nb fly.1 (up.trans upp) eos eag
    obtain ⟨ob3, vs3, at3, zc3, dt3⟩ := fly.there
    have nfr : x ∉ frs (Y.env :: Y.outer) := fun hm => by
      obtain ⟨_, o', e', hnf⟩ := (fly.2.2.1).mem hm
      rw [at3] at e'
      cases e'
      exact hnf _ dt3
    have nL : x ≠ Y.env.locals := fun e => nfr (List.mem_filterMap.mpr ⟨Y.env, List.mem_cons_self, e ▸ fr0⟩)
    have nF : x ∉ Y.fs := fun hm => by
      obtain ⟨e, he, q⟩ := List.mem_filterMap.mp hm
      exact nfr (List.mem_filterMap.mpr ⟨e, List.mem_cons_of_mem _ he, q⟩)
    have S3 := J3.suite at3 dt3 nx nL nF
    have look : PySem.W.Looks (model Y.prog Y.w) g3 (typeOf (.ref x)) cl := fun A Q E s k q => wpAny_typeOf_ref (k _ _ at3) (zc3.1 ▸ q)
    have main : ∀ {hs' : List ExceptHandler} {l' : List Cls3}, HdM Y hs' l' → wMix Y.K Wo G l' cl dd τ' J' → wpAny (model Y.prog Y.w) Y.A (handleBy (.ref x) Y.env hs') (SP Y pins G) Y.xe { z' with heap := g3 } := by
      intro hs' l' hk
      induction hk with
      | nil =>
        intro w
        refine wpAny_handleBy_nil ?_
        have flz := fly
        obtain ⟨_, _, _, oe, vs, T, oT, _, he, _, hdt, h1, _⟩ := flz
        have last : wpAny (model Y.prog Y.w) Y.A (setFlight (.ref x) Y.env.frame) (fun _ z4 => wpAny (model Y.prog Y.w) Y.A (throw (.ref x) : Sem Flow) (SP Y pins G) Y.xe z4) Y.xe { z' with heap := g3 } := by
          rw [fr0]
          exact HandSPX.setFlight_upZ fly fun g4 held up4 => wpAny_throw (tk _ _ ⟨x, Bg, zI, pins, τ', J', cl, dd, rfl, JI, nb, (up.trans upp).trans up4, .inr (.inr (st0 ▸ held)), nx, eos, eag, w⟩)
        unfold PySem.passOn
        refine wpAny_bind (wpAny_field he hdt h1 ?_)
        rw [if_neg (by simp : ¬ ((Value.ref T == Value.none) = true))]
        first
          | exact wpAny_bind (wpAny_pure (wpAny_bind last))
          | exact wpAny_bind last
      | @plain cn c t st sts p1 p2 hs2 l2 nc so r ih =>
        intro ⟨y, y1, yes, no⟩
        refine wpAny_handleBy_cons (codeAny_handlers_test (names_ev S3 nc ((PySem.W.exm_one (M := model Y.prog Y.w) J3.kIn look y1).here ?_))) (by intro q; cases q)
        cases y with
        | false =>
          show wpAny _ Y.A (handleBy (.ref x) Y.env hs2) _ _ _
          exact ih (no rfl)
        | true =>
          refine codeAny_handlers_suite (HandSPX.lands_againZ fly fun g4 fl4 up4 => ?_)
          obtain ⟨ob4, vs4, at4, zc4, dt4⟩ := fl4.there
          have S4 := (JI.landed nb fl4.1 ((up.trans upp).trans up4) eos eag : L2.Inv Y pins τ' J' { z' with heap := g4 }).suite at4 dt4 nx nL nF
          refine wpAny_mono ((so x ob4 cl dd (Y.pn ++ pins) zc4 ⟨_, dt4⟩).run [] _ _ J' _ S4 (yes rfl x nx)) (fun fl z6 q6 => ?_) (fun _ _ e => e.elim)
          cases fl with
          | ret u => obtain ⟨v6, τ6, J6, S6, r6, q6⟩ := q6; exact ⟨_, _, _, S6.unsuite okY, r6, q6⟩
          | next => obtain ⟨τ6, J6, S6, q6⟩ := q6; exact ⟨_, _, S6.unsuite okY, q6⟩
          | brk => obtain ⟨τ6, J6, S6, q6⟩ := q6; exact ⟨_, _, S6.unsuite okY, q6⟩
          | cont => obtain ⟨τ6, J6, S6, q6⟩ := q6; exact ⟨_, _, S6.unsuite okY, q6⟩
      | @named cn nm i c t st sts p1 p2 hs2 l2 nc hi hk so r ih =>
        intro ⟨y, y1, yes, no⟩
        refine wpAny_handleBy_cons (codeAny_handlers_test (names_ev S3 nc ((PySem.W.exm_one (M := model Y.prog Y.w) J3.kIn look y1).here ?_))) (by intro q; cases q)
        cases y with
        | false =>
          show wpAny _ Y.A (handleBy (.ref x) Y.env hs2) _ _ _
          exact ih (no rfl)
        | true =>
          refine codeAny_handlers_suite_as (HandSPX.lands_againZ fly fun g4 fl4 up4 => ?_)
          obtain ⟨ob4, vs4, at4, zc4, dt4⟩ := fl4.there
          have S4 := (JI.landed nb fl4.1 ((up.trans upp).trans up4) eos eag : L2.Inv Y pins τ' J' { z' with heap := g4 }).suite at4 dt4 nx nL nF
          refine store_ok (X := Y.suite x ((x, ob4) :: (Y.pn ++ pins))) (v := .ref x) S4 nd hi (.inl hk) rfl (fun z5 S5 => ?_) (.inr hk)
          refine wpAny_mono ((so x ob4 cl dd (Y.pn ++ pins) zc4 ⟨_, dt4⟩).run [] z5 _ J' _ S5 (yes rfl x nx)) (fun fl z6 q6 => ?_) (fun _ _ e => e.elim)
          have off : ∀ {τ6 : L2.St} {J6 : Hp} {Q : Shared → Prop}, L2.Inv (Y.suite x ((x, ob4) :: (Y.pn ++ pins))) [] τ6 J6 z6 → (∀ z7, L2.Inv Y pins (τ6.set i none) J6 z7 → Q z7) →
              wpAny (model Y.prog Y.w) Y.A (do bindName Y.env nm .none; unbindBehindTheSuite Y.env nm p2) (fun _ z7 => Q z7) Y.xe z6 := fun {τ6 J6 Q} S6 hq => gone_ok (S6.unsuite okY) nd hi hk hq
          cases fl with
          | ret u => obtain ⟨v6, τ6, J6, S6, r6, q6⟩ := q6; exact off S6 fun z7 J7 => ⟨_, _, _, J7, r6, q6⟩
          | next => obtain ⟨τ6, J6, S6, q6⟩ := q6; exact off S6 fun z7 J7 => ⟨_, _, J7, q6⟩
          | brk => obtain ⟨τ6, J6, S6, q6⟩ := q6; exact off S6 fun z7 J7 => ⟨_, _, J7, q6⟩
          | cont => obtain ⟨τ6, J6, S6, q6⟩ := q6; exact off S6 fun z7 J7 => ⟨_, _, J7, q6⟩
    exact main hh w
  · cases fl with
    | ret u => obtain ⟨v, τ', J', JI, r, q⟩ := hsp; exact ⟨v, τ', J', JI.ofTry okY, r, q⟩
    | next => obtain ⟨τ', J', JI, q⟩ := hsp; exact wpAny_execs_nil ⟨τ', J', JI.ofTry okY, q⟩
    | brk => obtain ⟨τ', J', JI, q⟩ := hsp; exact ⟨τ', J', JI.ofTry okY, q⟩
    | cont => obtain ⟨τ', J', JI, q⟩ := hsp; exact ⟨τ', J', JI.ofTry okY, q⟩
end
/-! ### try in mirrors -/
/-- what the text says of a clause's class -/
def AnsX {K : PySem.W.Frag} (L : Ly K) (c : Value) (ans : Nat → Option Bool) : Prop := ∀ k b, ans k = some b → PySem.W.exmOne K (.ref (L.CA k)) c = some b
inductive HmR {K : PySem.W.Frag} (L : Ly K) : List Hm → List Cls3 → Prop
  | nil : HmR L [] []
  | plain {c : Value} {ans : Nat → Option Bool} {m : SM} {hs : List Hm} {l : List Cls3} (ha : AnsX L c ans) (r : HmR L hs l) : HmR L (⟨ans, none, m⟩ :: hs) ((c, none, fun _ _ _ => tS L W0 m) :: l)
  | named {c : Value} {i : Nat} {ans : Nat → Option Bool} {m : SM} {hs : List Hm} {l : List Cls3} (ha : AnsX L c ans) (r : HmR L hs l) : HmR L (⟨ans, some i, m⟩ :: hs) ((c, some i, fun x cl dd => tS (excL L x cl dd) W0 m) :: l)
section
variable {X : Cx} {L : Ly X.K} {Wx : WX} {B : Addr → Prop} {W W1 W' : WM} {H H1 H' : Hp} {σ : L2.St} {ρ ρ' : Rho} {pos : Pos}
theorem outX_wp {m : M SR} {G : Ends} (h : (m.bind outX).wp (PostS L B Wx W H G)) : m.wp (PostS L B W0 W H G) := by
  refine M.wp_mono (fun r p => ?_) (M.wp_bind.mp h)
  cases r with
  | ex e ρ => exact p.elim
  | _ => exact p
theorem offX_wp {m : M SR} {G : Ends} {i : Nat} {x : Addr} {cl : Value} {dd : Option Addr} (h : (m.bind (offX i)).wp (PostS L B Wx W H G)) : m.wp (PostS (excL L x cl dd) B W0 W H (endsOff i G)) := by
  refine M.wp_mono (fun r p => ?_) (M.wp_bind.mp h)
  have off : ∀ {W' : WM} {H' : Hp} {σ' : L2.St} {ρ : Rho}, Rel (excL L x cl dd) B W' H' σ' ρ → noXs (ρ.set i .none) = true → Rel L B W' H' (σ'.set i none) (ρ.set i .none) := fun {W' H' σ' ρ} R n => by
    obtain ⟨oa, R⟩ := R
    exact Rel.ofX ⟨oa, R.drop i none⟩ n
  cases r with
  | nx ρ =>
    simp only [offX] at p
    split at p
    · rename_i n
      exact fun W' H' σ' S R => p W' H' _ S (off R n)
    · exact p.elim
  | bk ρ =>
    simp only [offX] at p
    split at p
    · rename_i n
      exact fun W' H' σ' S R => p W' H' _ S (off R n)
    · exact p.elim
  | ct ρ =>
    simp only [offX] at p
    split at p
    · rename_i n
      exact fun W' H' σ' S R => p W' H' _ S (off R n)
    · exact p.elim
  | rt d => exact fun W' H' v S wk hB rv => p W' H' v S wk hB (rep_x.mp rv)
  | ex e ρ => exact p.elim
theorem tryGo_mix {G : Ends} {e : Err} {cl : Value} {dd : Option Addr} : ∀ {hs : List Hm} {l : List Cls3}, HmR L hs l → ∀ {ρ : Rho}, (tryGo hs e ρ).wp (PostS L B Wx W H G) → Rel L B W H σ ρ → ERep L W H e cl dd → wMix X.K Wx G l cl dd σ H := by
  intro hs l hr
  induction hr with
  | nil => exact fun q R er => q W H σ cl dd Stp.refl R er
  | @plain c ans m hs l ha r ih =>
    intro ρ q R er
    have ec : cl = .ref (L.CA e.c) := by
      cases dd with
      | none => exact er.1
      | some a => exact er.1
    simp only [tryGo] at q
    cases ea : ans e.c with
    | none => rw [ea] at q; exact q.elim
    | some b =>
      rw [ea] at q
      refine ⟨b, by rw [ec]; exact ha _ _ ea, fun hb x hx => ?_, fun hb => ?_⟩
      · subst hb
        exact ⟨B, W, ρ, R, outX_wp q⟩
      · subst hb
        exact ih q R er
  | @named c i ans m hs l ha r ih =>
    intro ρ q R er
    have ec : cl = .ref (L.CA e.c) := by
      cases dd with
      | none => exact er.1
      | some a => exact er.1
    simp only [tryGo] at q
    cases ea : ans e.c with
    | none => rw [ea] at q; exact q.elim
    | some b =>
      rw [ea] at q
      refine ⟨b, by rw [ec]; exact ha _ _ ea, fun hb x hx => ?_, fun hb => ?_⟩
      · subst hb
        simp only at q
        split at q
        case isFalse => exact q.elim
        case isTrue n =>
          exact ⟨B, W, _, (R.toX n).putX (xa := x) i er, offX_wp q⟩
      · subst hb
        exact ih q R er
theorem s_try {bd : List Stmt} {hd : ExceptHandler} {hds : List ExceptHandler} {l : List Cls3} {mb : SM} {hs : List Hm} (st0 : X.stack = X.env :: X.outer) (fr0 : X.env.frame = some X.env.locals) (nd : X.N.Nodup) (tk : L2.Takes X Wx)
    (hbody : ∀ (Wi : WX) (pl : List (Addr × Obj)) (xe : Value → Shared → Prop), L2.Takes (X.tr pl xe) Wi → PassesOwn (model X.prog X.w) X.A X.env xe → PSs (X.tr pl xe) bd (tS (K := X.K) L Wi mb))
    (hh : HdM X (hd :: hds) l) (hm : HmR L hs l) : PS X (.Try bd (hd :: hds) [] [] pos) (tS L Wx (sTry mb hs)) :=
  PS.weak (ps_mix (tb := fun Wi => tS L Wi mb) st0 fr0 nd tk hbody hh) fun G σ H q => by
    obtain ⟨B, W, ρ, R, q⟩ := q
    refine ⟨B, W, ρ, R, M.wp_mono (fun r p => ?_) (M.wp_bind.mp q)⟩
    cases r with
    | ex e ρ1 => exact fun W' H' σ' cl dd S R' er => tryGo_mix hm (M.wp_mono (fun r p => p.from S) p) R' er
    | _ => exact p
/-! ### e.f of a caught exception -/
theorem d_xf {X : Cx} {L : Ly X.K} {Wx : WX} {a : Addr} {oe : Obj} {cls : Value} {d : Option Addr} {pn : List (Addr × Obj)} {e : Expr} {pos : Pos} {f : Str} {i : Nat} {ok : Nat → Bool} (hok : ∀ c, ok c = true → XfC X.K (L.CA c) ∧ PySem.W.findIn X.K (.ref (L.CA c)) f = some none)
    (hz : Zc cls d oe) (hf : ∃ vs, oe.data = .fields vs) (he : PE (X.suite a ((a, oe) :: pn)) e (tVar i)) (hb : attributeBase e f X.env (eval e X.env) = eval e X.env := by rfl) :
    PE (X.suite a ((a, oe) :: pn)) (.Attribute e f pos) (tE (K := X.K) (excL L a cls d) Wx (eXf ok i f)) := by
  refine ⟨fun pins s σ H Q I h => ?_⟩
  obtain ⟨B, W, ρ, ⟨oa, R⟩, q⟩ := h
  unfold eXf at q
  split at q
  case h_2 => exact q.elim
  case h_1 x0 c fs e0 =>
    split at q
    case isFalse => exact q.elim
    case isTrue hc =>
      obtain ⟨s1, s2⟩ := R.sl i _ e0
      obtain ⟨k1, k2⟩ := hok c hc
      have s1 : σ[i]? = some (some (.ref a)) := s1
      cases d with
      | none =>
        obtain ⟨_, z⟩ := s2
        have z : fs = [] := z
        subst z
        have : lkF (cf c) ([] : List D) f = none := by
          unfold lkF
          cases cf c <;> rfl
        rw [this] at q
        exact q.elim
      | some dd =>
        obtain ⟨z1, vs, z2, z3, z4⟩ := s2
        have z1 : cls = .ref (L.CA c) := z1
        cases el : lkF (cf c) fs f with
        | none => rw [el] at q; exact q.elim
        | some y =>
          rw [el] at q
          obtain ⟨v, l1, l2⟩ := lkF_rep z4 el
          exact (pe_xf k1 k2 hz hf he hb).run pins s σ H Q I ⟨_, s1, rfl, z1, dd, _, v, rfl, z2, l1, wp_retE ⟨oa, R⟩ q v l2⟩
end
end DL

/-! D19: in and == by a class's own methods. -/
namespace DL
open PySem PySem.Spec PyProof.Rows L2 PySem.W

section
variable {prog : Program} {w : World} {A : Around} {E : Value → Shared → Prop} {s : Shared} {K : PySem.W.Frag} {b C f : Addr} {ob od : Obj} {u : Value}
theorem contains_own {Q : Bool → Shared → Prop} (X : K.In s.heap) (J : PySem.W.InstAt s.heap b ob C (some od)) (hs : PySem.W.findIn K (.ref C) "__contains__" = some (some (.ref f))) (hf : PySem.W.isFn K (.ref f) = true)
    (h : wpAny (model prog w) A (call (.ref f) [.ref b, u]) (fun r s' => ∃ k, r = .bool k ∧ Q k s') E s) : wpAny (model prog w) A (contains (.ref b) u) Q E s := by
  unfold contains
  refine wpAny_holding ?_
  have e1 : stdlibNamesSay? (.ref b) u = none := by unfold stdlibNamesSay?; rfl
  simp only [e1]
  unfold callSpecialUnlessNone? specialOf
  refine wpAny_bind (wpAny_bind (J.type.here ((PySem.W.looks_findIn X hs).here ?_)))
  rw [if_neg (show ¬ ((some (Value.ref f) == some Value.none) = true) from by simp)]
  refine wpAny_bind (wpAny_bind (wpAny_bind (J.type.here ((PySem.W.looks_findIn X hs).here ?_))))
  refine wpAny_holding (wpAny_bind ((PySem.W.bind_fn X _ (beq_iff_eq.mp hf)).here ?_))
  show wpAny _ _ (if (Value.ref f == Value.none) = true then _ else _) _ _ _
  rw [if_neg (show ¬ ((Value.ref f == Value.none) = true) from by simp)]
  refine wpAny_bind (wpAny_mono h (fun r s' h' => wpAny_pure ?_) fun _ _ e => e)
  obtain ⟨k, rfl, q⟩ := h'
  exact wpAny_truthy_bool q
end
section
variable {X : Cx} {L : Ly X.K} {Wx : WX} {B : Addr → Prop} {W W1 W' : WM} {H H1 H' : Hp} {σ : L2.St} {ρ ρ' : Rho} {pos : Pos} {pins : List (Addr × Obj)} {s : Shared}
/-- what is asked of the call -/
theorem own_run {name : Str} {disp : Nat → Option FM} {g : Bool → Bool} {o x : D} {v w : V} {u1 u2 : Value} {Q : VK} (hd : ∀ c m, disp c = some m → MethD (P := X.prog) (w := X.w) (mg := X.mg) (base := X.base) (A := X.A) L name 1 [] (fun ds _ => ds) c m) (tk : Takes X Wx) (I : Inv X pins σ H s) (R : Rel L B W H σ ρ) (h1 : Rep L W H o v) (h2 : Rep L W H x w)
    (r1 : RelV v u1) (r2 : RelV w u2) (h : (eOwn disp g o x ρ).wp (PostE L B Wx W H σ fun d _ W' H' => ∀ v, Rep L W' H' d v → Q v H')) :
    ∃ c ds b C f ob od, o = .node (.obj c) ds ∧ C = L.CA c ∧ u1 = .ref b ∧ PySem.W.InstAt s.heap b ob C (some od) ∧ Cls X.K C ∧ Meth X.K C name f ∧ wpAny (model X.prog X.w) X.A (call (.ref f) [u1, u2]) (fun r s' => ∃ k, r = .bool k ∧ ∃ H', Inv X pins σ H' s' ∧ Q (.bl (g k)) H') X.xe s := by
  unfold eOwn at h
  split at h
  case h_2 => exact h.elim
  case h_1 c ds =>
    cases e : disp c with
    | none => simp only [e] at h; exact h.elim
    | some m =>
      simp only [e] at h
      obtain ⟨f, fd, ps, k, c1, c2, c3, F, rm, hb⟩ := (hd c m e).ex
      obtain ⟨a, vs, dx, rfl, _, ha, ra⟩ := RepP.obj (.inl h1)
      obtain rfl : u1 = Value.ref a := r1
      obtain ⟨mA, O, _⟩ := ins_rd I ha
      obtain ⟨od, J, _⟩ := O.look
      refine ⟨c, ds, a, _, f, _, od, rfl, rfl, rfl, J, c1, c2, ?_⟩
      obtain ⟨full, fv, bb, lf, rf, hg⟩ := hb.to s [.ref a, u2] [] [.ref a, w] [] I.kIn rfl rfl (.cons (show L2.RelV (.ref a) _ from rfl) (.cons r2 .nil)) .nil
      have hf := hg W H [.node (.obj c) ds, x] [] ⟨_, _, rfl, h1, _, _, rfl, h2, rfl⟩ rfl
      have hs : spD L ps.length m fv H (fun v H' => ∃ kk, v = .bl kk ∧ Q (.bl (g kk)) H') (WE Wx σ) := spD_of R (rf.length.trans lf) hf (M.wp_mono (fun r p => p) (wp_seqE h)) fun d W' H' v R' S rv hq => by
        cases d with
        | bl kk => exact ⟨kk, rv, wp_retE R' hq _ rfl⟩
        | _ => exact hq.elim
      exact thn (run_fnD F rm tk bb I rf hs) fun r s' ⟨v, H', I', rv, kk, e1, q⟩ => by
        subst e1
        exact ⟨kk, rv, H', I', q⟩
theorem c_inO {a b : Expr} {disp : Nat → Option FM} {ma mb : EM D} (hd : ∀ c m, disp c = some m → MethD (P := X.prog) (w := X.w) (mg := X.mg) (base := X.base) (A := X.A) L "__contains__" 1 [] (fun ds _ => ds) c m) (tk : Takes X Wx) (ha : PE X a (tE L Wx ma)) (hb : PE X b (tE L Wx mb)) : PC X .In a b (tE L Wx (eIn2 disp id ma mb)) := by
  refine ⟨fun pins s σ H Q I h => ?_⟩
  obtain ⟨B, W, ρ, R, q⟩ := h
  refine thn (ha.run pins s σ H (fun v H1 => ∃ B W ρ x, Rel L B W H1 σ ρ ∧ Rep L W H1 x v ∧ (bindE (mb ρ) fun o ρ2 => eOwn disp id o x ρ2).wp (PostE L B Wx W H1 σ fun d _ W' H' => ∀ v, Rep L W' H' d v → Q v H')) I ⟨B, W, ρ, R, M.wp_mono (fun r p => p.imp fun x ρ1 W1 H1 S1 R1 z v hv => ⟨B, W1, ρ1, x, R1, hv, z⟩) (wp_seqE q)⟩) fun u1 s1 ⟨v, H1, I1, r1, B1, W1, ρ1, x, R1, hx, q1⟩ => ?_
  refine thn (hb.run pins s1 σ H1 (fun w H2 => ∃ B W ρ o, Rel L B W H2 σ ρ ∧ Rep L W H2 o w ∧ Rep L W H2 x v ∧ (eOwn disp id o x ρ).wp (PostE L B Wx W H2 σ fun d _ W' H' => ∀ v, Rep L W' H' d v → Q v H')) I1 ⟨B1, W1, ρ1, R1, M.wp_mono (fun r p => p.imp fun o ρ2 W2 H2 S2 R2 z w hw => ⟨B1, W2, ρ2, o, R2, hw, hx.tr S2.tr, z⟩) (wp_seqE q1)⟩) fun u2 s2 ⟨w, H2, I2, r2, B2, W2, ρ2, o, R2, ho, hx2, q2⟩ => ?_
  obtain ⟨c, ds, b', C, f, ob, od, rfl, rfl, rfl, J, c1, c2, hc⟩ := own_run hd tk I2 R2 ho hx2 r2 r1 q2
  show wpAny _ _ (do return Value.bool (← contains (.ref b') u1)) _ _ _
  exact wpAny_bind (contains_own I2.kIn J c2.at_ c2.fn (wpAny_mono hc (fun r s' ⟨k, e, H', I', q⟩ => ⟨k, e, wpAny_pure ⟨.bl k, H', I', rfl, q⟩⟩) fun _ _ e => e))
theorem c_notInO {a b : Expr} {disp : Nat → Option FM} {ma mb : EM D} (hd : ∀ c m, disp c = some m → MethD (P := X.prog) (w := X.w) (mg := X.mg) (base := X.base) (A := X.A) L "__contains__" 1 [] (fun ds _ => ds) c m) (tk : Takes X Wx) (ha : PE X a (tE L Wx ma)) (hb : PE X b (tE L Wx mb)) : PC X .NotIn a b (tE L Wx (eIn2 disp not ma mb)) := by
  refine ⟨fun pins s σ H Q I h => ?_⟩
  obtain ⟨B, W, ρ, R, q⟩ := h
  refine thn (ha.run pins s σ H (fun v H1 => ∃ B W ρ x, Rel L B W H1 σ ρ ∧ Rep L W H1 x v ∧ (bindE (mb ρ) fun o ρ2 => eOwn disp not o x ρ2).wp (PostE L B Wx W H1 σ fun d _ W' H' => ∀ v, Rep L W' H' d v → Q v H')) I ⟨B, W, ρ, R, M.wp_mono (fun r p => p.imp fun x ρ1 W1 H1 S1 R1 z v hv => ⟨B, W1, ρ1, x, R1, hv, z⟩) (wp_seqE q)⟩) fun u1 s1 ⟨v, H1, I1, r1, B1, W1, ρ1, x, R1, hx, q1⟩ => ?_
  refine thn (hb.run pins s1 σ H1 (fun w H2 => ∃ B W ρ o, Rel L B W H2 σ ρ ∧ Rep L W H2 o w ∧ Rep L W H2 x v ∧ (eOwn disp not o x ρ).wp (PostE L B Wx W H2 σ fun d _ W' H' => ∀ v, Rep L W' H' d v → Q v H')) I1 ⟨B1, W1, ρ1, R1, M.wp_mono (fun r p => p.imp fun o ρ2 W2 H2 S2 R2 z w hw => ⟨B1, W2, ρ2, o, R2, hw, hx.tr S2.tr, z⟩) (wp_seqE q1)⟩) fun u2 s2 ⟨w, H2, I2, r2, B2, W2, ρ2, o, R2, ho, hx2, q2⟩ => ?_
  obtain ⟨c, ds, b', C, f, ob, od, rfl, rfl, rfl, J, c1, c2, hc⟩ := own_run hd tk I2 R2 ho hx2 r2 r1 q2
  show wpAny _ _ (do return Value.bool (!(← contains (.ref b') u1))) _ _ _
  exact wpAny_bind (contains_own I2.kIn J c2.at_ c2.fn (wpAny_mono hc (fun r s' ⟨k, e, H', I', q⟩ => ⟨k, e, wpAny_pure ⟨.bl (!k), H', I', rfl, q⟩⟩) fun _ _ e => e))
/-! ### == -/
theorem c_eqO {a b : Expr} {disp : Nat → Option FM} {ma mb : EM D} (hu : X.A.units < cLine) (hd : ∀ c m, disp c = some m → MethD (P := X.prog) (w := X.w) (mg := X.mg) (base := X.base) (A := X.A) L "__eq__" 1 [] (fun ds _ => ds) c m) (tk : Takes X Wx) (ha : PE X a (tE L Wx ma)) (hb : PE X b (tE L Wx mb)) : PC X .Eq a b (tE L Wx (eEq2 disp ma mb)) := by
  refine ⟨fun pins s σ H Q I h => ?_⟩
  obtain ⟨B, W, ρ, R, q⟩ := h
  refine thn (ha.run pins s σ H (fun v H1 => ∃ B W ρ x, Rel L B W H1 σ ρ ∧ Rep L W H1 x v ∧ (bindE (mb ρ) fun y ρ2 => match x, y with
    | .node (.obj c) _, .node (.obj c') _ => if c = c' then eOwn disp id x y ρ2 else .stuck
    | _, _ => .stuck).wp (PostE L B Wx W H1 σ fun d _ W' H' => ∀ v, Rep L W' H' d v → Q v H')) I ⟨B, W, ρ, R, M.wp_mono (fun r p => p.imp fun x ρ1 W1 H1 S1 R1 z v hv => ⟨B, W1, ρ1, x, R1, hv, z⟩) (wp_seqE q)⟩) fun u1 s1 ⟨v, H1, I1, r1, B1, W1, ρ1, x, R1, hx, q1⟩ => ?_
  refine thn (hb.run pins s1 σ H1 (fun w H2 => ∃ B W ρ c ds es, Rel L B W H2 σ ρ ∧ Rep L W H2 (.node (.obj c) ds) v ∧ Rep L W H2 (.node (.obj c) es) w ∧ (eOwn disp id (.node (.obj c) ds) (.node (.obj c) es) ρ).wp (PostE L B Wx W H2 σ fun d _ W' H' => ∀ v, Rep L W' H' d v → Q v H')) I1 ⟨B1, W1, ρ1, R1, M.wp_mono (fun r p => p.imp fun o ρ2 W2 H2 S2 R2 z w hw => ?_) (wp_seqE q1)⟩) fun u2 s2 ⟨w, H2, I2, r2, B2, W2, ρ2, c, ds, es, R2, hx2, hy2, q2⟩ => ?_
  rotate_left
  · split at z
    case h_2 => exact z.elim
    case h_1 c ds c' es =>
      split at z
      case isFalse => exact z.elim
      case isTrue hc =>
        subst hc
        exact ⟨B1, W2, ρ2, c, ds, es, R2, hx.tr S2.tr, hw, z⟩
  · obtain ⟨c1', ds', b', C, f, ob, od, e0, rfl, rfl, J, c1, c2, hc⟩ := own_run hd tk I2 R2 hx2 hy2 r1 r2 q2
    cases e0
    obtain ⟨a2, vs2, dx2, rfl, _, ha2, _⟩ := RepP.obj (.inl hy2)
    obtain rfl : u2 = Value.ref a2 := r2
    obtain ⟨mB, O2, _⟩ := ins_rd I2 ha2
    obtain ⟨od2, J2, _⟩ := O2.look
    obtain ⟨m', hF⟩ := I2.fr
    refine PySem.W.cmp_K (op := .Eq) (tb := .ref (L.CA c)) hu hF I2.ok.mod.kin J J2.type (by simp [PySem.W.notFirst]) c2.at_ c2.fn (wpAny_mono hc (fun r s' ⟨k, e, H', I', q⟩ => ?_) fun _ _ e => e)
    subst e
    exact ⟨.bl k, H', I', rfl, q⟩
end
end DL

/-! DV: enumerate of a tuple. -/
namespace DL
open PySem PySem.Spec PyProof.Rows L2 PySem.W
/-- the tuple at a, its items with their numbers in new pairs -/
def Iten (K : PySem.W.Frag) (a : Addr) : It where
  go := fun j H => ∃ ys y, SqT K H a ys ∧ ys[j]? = some y
  yld := fun j H v H' => ∃ T y, v = .ref T ∧ H T = none ∧ H' = upd H T (.tup [.int (j : Nat), y]) ∧ ∀ ys, SqT K H a ys → ys[j]? = some y
  stop := fun j H => ∃ ys : List V, SqT K H a ys ∧ ys.length ≤ j
theorem begins_enT (a : Addr) (ys : Array Value) :
    Meets (Builtin.«enumerate.__new__» ⟨[.type "enumerate", .ref a], []⟩) (fun _ R z => z.heap.IsTuple a ys ∧
      R (.ok (.ret (.ref (z.heap.objs.size + 1))))
        { z with heap := (z.heap.push { cls := .type "tuple_iterator", data := .fields #[.ref a, .int 0 0] }).push { cls := .type "enumerate", data := .fields #[.none, .bool false, .ref z.heap.objs.size, rawInt 0, .none, .none] } }) :=
  .of_wp fun pr wo Ar R z q => by
    obtain ⟨hp, g1, g2, g3, g4⟩ := z
    obtain ⟨ht, q⟩ := q
    have su := sub_enumerate
    have eg : (hp.push { cls := .type "tuple_iterator", data := .fields #[.ref a, .int 0 0] }).objs.size = hp.objs.size + 1 := Heap.size_push ..
    have it1 : ∀ {A' : Around} {E : Value → Shared → Prop} {Q : Value → Shared → Prop}, Q (.ref hp.objs.size) ⟨hp.push { cls := .type "tuple_iterator", data := .fields #[.ref a, .int 0 0] }, g1, g2, g3, g4⟩ →
        PySem.wpAny (model pr wo) A' (pyIter (.ref a)) Q E ⟨hp, g1, g2, g3, g4⟩ := fun z => wpAny_pyIter_tuple (s := ⟨hp, g1, g2, g3, g4⟩) ht z
    wp_walk using it1
    refine wpAny_stack_any fun sk => wpAny_pure ?_
    split
    · rename_i cc _ _ _ _ _
      cases (cc == Value.type "enumerate")
      all_goals
        wp_walk using it1
        rw [eg]
        exact ⟨_, rfl, q⟩
    · wp_walk using it1
      rw [eg]
      exact ⟨_, rfl, q⟩
theorem called_enT {pr : Program} {wo : World} {Ar : Around} {E : Value → Shared → Prop} {z : Shared} {a : Addr} {ys : Array Value} {Q : Value → Shared → Prop} (ht : z.heap.IsTuple a ys)
    (q : ∀ h', IsEnum h' (z.heap.objs.size + 1) z.heap.objs.size 0 .none → h'.IsTupleIter z.heap.objs.size a 0 → (∀ b o, z.heap.get? b = some o → h'.get? b = some o) → Q (.ref (z.heap.objs.size + 1)) { z with heap := h' }) :
    PySem.wpAny (model pr wo) Ar (call (.type "enumerate") [.ref a]) Q E z := by
  refine callType_new F.called_enumerate (by decide) (F.typeCall_enumerate_1 _) (F.newCall_enumerate_1 _) (fun ob => F.args_object_init_2 ob _) F.entry_enumerate_new (begins_enT a ys) ⟨ht, ?_⟩
  generalize hg : z.heap.push { cls := .type "tuple_iterator", data := .fields #[.ref a, .int 0 0] } = h1
  have e1 : h1.objs.size = z.heap.objs.size + 1 := by rw [← hg, Heap.size_push]
  have e2 : h1.get? z.heap.objs.size = some { cls := .type "tuple_iterator", data := .fields #[.ref a, .int 0 0] } := by rw [← hg]; exact Heap.get?_push_size _ rfl
  have e3 : ∀ b o, z.heap.get? b = some o → h1.get? b = some o := fun b o x => by rw [← hg]; exact Heap.get?_push_of_some _ x
  have en : IsEnum (h1.push { cls := .type "enumerate", data := .fields #[.none, .bool false, .ref z.heap.objs.size, rawInt 0, .none, .none] }) (z.heap.objs.size + 1) z.heap.objs.size 0 .none := by
    rw [← e1]; exact Heap.get?_push_size _ rfl
  exact ⟨⟨_, en, rfl⟩, q _ en ⟨_, Heap.get?_push_of_some _ e2, rfl, rfl⟩ fun b o x => Heap.get?_push_of_some _ (e3 b o x)⟩
theorem enT_end {pr : Program} {wo : World} {Ar : Around} {E : Value → Shared → Prop} {z : Shared} {e it a : Addr} {j : Nat} {ys : Array Value} {old : Value} {Q : Option Value → Shared → Prop} (hh : Ar.handled = none)
    (z1 : IsEnum z.heap e it (j : Nat) old) (z2 : z.heap.IsTupleIter it a j) (ta : z.heap.IsTuple a ys) (hj : ys.size ≤ j) (q : ∀ h', Heap.ExtBut it z.heap h' → Q none { z with heap := h' }) :
    PySem.wpAny (model pr wo) Ar (pyNext (.ref e)) Q E z := by
  have hT : z.TypeIs (.ref e) "enumerate" := ⟨_, z1, rfl⟩
  unfold pyNext
  refine wpAny_bind (wpAny_attempt (wpAny_callSpecial?_slot (name := Str.ofString "__next__") hT F.slot_enumerate_next (wpAny_call_entry F.slot_enumerate_next hT F.entry_enumerate_next ?_ (F.args_enumerate_next_1 _))))
  show PySem.wpAny _ _ (PySem.field (.ref e) 2 >>= _) _ _ _
  refine wpAny_bind (wpAny_field z1 rfl (x := .ref it) rfl ?_)
  refine wpAny_bind (wpAny_nextOf_tuple_end hh z2 ta (by simp; omega) fun h' x eb hx => ?_)
  obtain ⟨ob, o1, o2⟩ := hx
  refine wpAny_bind (wpAny_isInstance (T := "StopIteration") (b := true) ⟨ob, o1, o2⟩ isSubtype_stop ?_)
  exact wpAny_pure (q _ eb)
theorem turn_enT {P : Program} {w : World} {K : PySem.W.Frag} {es : List Expr} {kq : Nat} {tp : Pos} (a e it : Addr) :
    Turn P w K (.Tuple es kq tp) (Iten K a) [e, it] e (fun j h => (∃ old, IsEnum h e it ((j : Nat) : Int) old) ∧ h.IsTupleIter it a j ∧ e ≠ it) where
  mem := List.mem_cons_self
  obj := fun j h st b hb => by
    obtain ⟨⟨old, z1⟩, ⟨ob, z2, z3, z4⟩, _⟩ := st
    rcases List.mem_cons.mp hb with rfl | hb
    · exact ⟨_, z1, fun v q => nomatch q⟩
    · rw [List.mem_singleton.mp hb]
      exact ⟨ob, z2, fun v q => by rw [z4] at q; cases q⟩
  keep := fun j h h' st k => by
    obtain ⟨⟨old, z1⟩, z2, z3⟩ := st
    exact ⟨⟨old, k e List.mem_cons_self _ z1⟩, z2.at fun o q => k it (by simp) o q, z3⟩
  item := by
    intro X hP hw hK hc j pins s σ H E I hf st hg
    subst hP hw hK
    obtain ⟨⟨old, z1⟩, z2, z3⟩ := st
    obtain ⟨ys, y, y1, y2⟩ := hg
    obtain ⟨its, rv, tu, _⟩ := I.tuple y1
    obtain ⟨u, hu, ru⟩ := rv.get y2
    have le1 : e < s.heap.objs.size := Heap.lt_size z1
    have le2 : it < s.heap.objs.size := by
      obtain ⟨_, q, _⟩ := z2
      exact Heap.lt_size q
    have ta : s.heap.IsTuple a its.toArray := tu
    have nai : a ≠ it := fun q => by
      obtain ⟨_, q1, q2, _⟩ := z2
      obtain ⟨_, q3, q4, _⟩ := ta
      rw [q, q1] at q3
      cases q3
      rw [q2] at q4
      simp at q4
    have nae : a ≠ e := fun q => by
      obtain ⟨_, q3, q4, _⟩ := ta
      rw [q, z1] at q3
      cases q3
      simp at q4
    have hlt : j < its.toArray.size := by
      have := (List.getElem?_eq_some_iff.mp hu).1
      simpa using this
    refine wpAny_pyNext_enum_itemD (P := fun j v => its.toArray[j]? = some v) (St := fun j h => h.IsTupleIter it a j ∧ h.IsTuple a its.toArray) (Draws.tuple (A := X.A.in1) (I.ok.hd hc) it a nai its.toArray) z1 ⟨z2, ta⟩ hlt z3 (by simp [z3, nae.symm]) fun u' h' tk q1 q2 q3 q4 q5 q6 => ?_
    have eu : u' = u := by
      have : its.toArray[j]? = some u := by simpa using hu
      rw [this] at q1
      exact (Option.some.inj q1).symm
    subst eu
    refine ⟨_, rfl, wpAny_letOwnedTupleGo_enum (s := { s with heap := h', toks := tk + 1 }) q2 fun h2 q7 sb => ?_⟩
    have q8 : h2.get? s.heap.objs.size = some { cls := .type "tuple", data := .seq #[.int j tk, u'] } := (sb.2 _ (Nat.ne_of_gt le1)).trans q4
    have two : 2 ≤ sizeLine := by decide
    have nw : ObjOk X.prog X.w (upd H s.heap.objs.size (.tup [.int (j : Nat), y])) h2 s.heap.objs.size (.tup [.int (j : Nat), y]) := ⟨two, [.int j tk, u'], .cons ⟨_, rfl⟩ (.cons ru .nil), _, q8, rfl, _, rfl⟩
    have I1 : Inv X pins σ (upd H s.heap.objs.size (.tup [.int (j : Nat), y])) { s with heap := h2, toks := tk + 1 } := by
      refine I.turnedNew (ch := [e, it]) (fun b ob hb q => ?_) hf (Nat.le_refl _) nw
      have n1 : b ≠ e := fun z => hb (by simp [z])
      have n2 : b ≠ it := fun z => hb (by simp [z])
      exact (sb.2 b n1).trans (q6 b ob n1 n2 q)
    refine ⟨.ref s.heap.objs.size, _, I1, rfl, ⟨_, y, rfl, I.hok.fresh (Nat.le_refl _), rfl, fun zs hz => by rw [I.tuple_inj hz y1]; exact y2⟩, ⟨⟨u', ?_⟩, q3.1.at fun o q => (sb.2 it z3.symm).trans q, z3⟩, fun b hb => ?_⟩
    · have : ((j + 1 : Nat) : Int) = (j : Int) + 1 := by omega
      rw [this]
      exact q7
    · have lb : b < s.heap.objs.size := by
        rcases List.mem_cons.mp hb with rfl | hb
        · exact le1
        · rw [List.mem_singleton.mp hb]; exact le2
      rw [upd_ne (Nat.ne_of_lt lb)]
      exact (hf b hb).1
  done := by
    intro X hP hw hK hc j pins s σ H E I hf st hg
    subst hP hw hK
    obtain ⟨⟨old, z1⟩, z2, z3⟩ := st
    obtain ⟨ys, y1, y2⟩ := hg
    obtain ⟨its, rv, tu, _⟩ := I.tuple y1
    obtain ⟨f0, f1, f2, f3, f4, f5⟩ := hf it (by simp)
    have ta : s.heap.IsTuple a its.toArray := tu
    have hl := rv.length
    have nai : a ≠ it := fun q => by
      obtain ⟨_, q1, q2, _⟩ := z2
      obtain ⟨_, q3, q4, _⟩ := ta
      rw [q, q1] at q3
      cases q3
      rw [q2] at q4
      simp at q4
    have hj : its.toArray.size ≤ j := by simp; omega
    exact enT_end (I.ok.hd hc) z1 z2 ta hj fun h' eb => ⟨rfl, I.turned (t' := s.toks) (fun b o hb q => eb b o hb q) f0 f1 f3 f4 f5⟩
  self := fun Ar j s Q E st h => by
    obtain ⟨⟨_, z1⟩, _⟩ := st
    exact wpAny_pyIter_enum z1 h
def iEnLT (K : PySem.W.Frag) (ta : TA) : TI := fun σ H R => ta σ H fun vs H1 => ∃ a ys, vs = [.ref a] ∧ (SqL K H1 a ys ∧ R (Ite K a) H1 ∨ SqT K H1 a ys ∧ R (Iten K a) H1)
theorem pi_enLT {X : Cx} {ex : Expr} {ta : TA} {p pq tp : Pos} {es : List Expr} {kq : Nat} (hg : Gl X "enumerate") (hm : X.mg "enumerate" = none) (ha : PA X [ex] ta) (hs : starEach [ex] X.env = [(false, eval ex X.env)] := by rfl) :
    PI X (.Tuple es kq tp) (.Call (.Name "enumerate" p) [ex] [] pq) (iEnLT X.K ta) := by
  refine ⟨fun pins s σ H R I h => ?_⟩
  refine Call_ (ld_blt I hg hm boot_enumerate (PyProof.Rows.callWith_type1 (thn (ha.run pq pins s σ H _ I h) fun us z ⟨vs, H1, I1, r1, q1⟩ => ?_) hs rfl))
  obtain ⟨a, ys, rfl, q⟩ := q1
  cases r1 with
  | cons r rr =>
    cases rr
    cases r
    have fin : ∀ {h' : Heap} {J : It} {tn : Nat → Heap → Prop} {e1 it1 : Addr}, (∀ b o, z.heap.get? b = some o → h'.get? b = some o) → e1 = z.heap.objs.size + 1 → it1 = z.heap.objs.size →
        Turn X.prog X.w X.K (.Tuple es kq tp) J [e1, it1] e1 tn → tn 0 h' → R J H1 → PIE X pins σ (.Tuple es kq tp) R (.ref e1) { z with heap := h' } := by
      intro h' J tn e1 it1 hk n1 n2 T t0 r
      refine ⟨e1, [e1, it1], tn, J, H1, rfl, I1.kept (t' := z.toks) hk, T, t0, fun b hb => ?_, r⟩
      have le : z.heap.objs.size ≤ b := by
        rcases List.mem_cons.mp hb with rfl | hb
        · rw [n1]; exact Nat.le_succ _
        · rw [List.mem_singleton.mp hb, n2]; exact Nat.le_refl _
      exact I1.fpOk le (I1.hok.fresh le)
    rcases q with ⟨hq, q⟩ | ⟨hq, q⟩
    · obtain ⟨its, rv, pl, _⟩ := I1.list hq
      refine call_enumerate_list pl.isList fun h' he hit hsz hk => wpAny_pyIter_enum he ?_
      exact fin hk rfl rfl (turn_enum a (z.heap.objs.size + 1) z.heap.objs.size) ⟨⟨.none, he⟩, hit, Nat.succ_ne_self _⟩ q
    · obtain ⟨its, rv, pl, _⟩ := I1.tuple hq
      refine called_enT (ys := its.toArray) pl fun h' he hit hk => wpAny_pyIter_enum he ?_
      exact fin hk rfl rfl (turn_enT a (z.heap.objs.size + 1) z.heap.objs.size) ⟨⟨.none, he⟩, hit, Nat.succ_ne_self _⟩ q
end DL

/-! D20: slices, index, starred items, enumerate, dict displays, names of the module. -/
namespace DL
open PySem PySem.Spec PyProof.Rows L2 PySem.W

section
variable {X : Cx} {L : Ly X.K} {Wx : WX} {B : Addr → Prop} {W W1 W' : WM} {H H1 H' : Hp} {σ : L2.St} {ρ ρ' : Rho} {pos : Pos} {pins : List (Addr × Obj)} {s : Shared}
def tPt {K : PySem.W.Frag} (L : Ly K) (Wx : WX) (m : EM (Option Int)) : TO := fun σ H Q => ∃ B W ρ, Rel L B W H σ ρ ∧ (m ρ).wp (PostE L B Wx W H σ fun o _ _ H' => Q o H')
theorem PO.weak {e : Option Expr} {t t' : TO} (h : PO X e t) (w : ∀ σ H Q, t' σ H Q → t σ H Q) : PO X e t' := ⟨fun pins s σ H Q I q => h.run pins s σ H Q I (w σ H Q q)⟩
theorem po_n : PO X none (tPt L Wx ePn) := PO.weak po_none fun σ H Q q => by
  obtain ⟨B, W, ρ, R, q⟩ := q
  exact wp_retE R q
theorem po_1 {e : Expr} {m : EM D} (h : PE X e (tE L Wx m)) : PO X (some e) (tPt L Wx (eP1 m)) := PO.weak (po_some h) fun σ H Q q => by
  obtain ⟨B, W, ρ, R, q⟩ := q
  refine ⟨B, W, ρ, R, M.wp_mono (fun r p => p.imp fun d ρ1 W1 H1 S1 R1 z v hv => ?_) (wp_seqE q)⟩
  cases d with
  | int i => exact ⟨i, hv, wp_retE R1 z⟩
  | _ => exact z.elim
theorem RepL.cut {ds : List D} {vs : List V} (h : RepL L W H ds vs) (lo hi : Option Int) : RepL L W H (cutL ds lo hi) (cutV vs lo hi) := by
  unfold cutL cutV
  rw [h.length]
  exact (h.drop _).take _
theorem sl_frz {r : V → Option Int → Option Int → Hp → VK → Prop} (h : SlR X r) : SlR X (fun x lo hi H Q => r x lo hi H (Frz Q)) := fun pins s σ H x v vl vu lo hi sl Q I rx hs pl pu q => by
  obtain ⟨T, id, h1, h2, h3⟩ := h pins s σ H x v vl vu lo hi sl (Frz Q) I rx hs pl pu q
  exact ⟨T, id, h1, h2, thn h3 fun _ _ z => EP.frz z⟩
def rSlD {K : PySem.W.Frag} (L : Ly K) : V → Option Int → Option Int → Hp → VK → Prop := fun x lo hi H Q => ∃ W d res, WOk L W H ∧ RepP L W H d x ∧ cutD d lo hi = some res ∧ ∀ H' w, Same H H' → Rep L W H' res w → Q w H'
theorem sl_D : SlR X (rSlD L) := by
  have hall := (sl_frz (sl_list (X := X))).or (sl_tupA.or sl_str)
  intro pins s σ H x v vl vu lo hi sl Q I rx hs pl pu h
  obtain ⟨W, d, res, wk, hr, e, q⟩ := h
  refine hall pins s σ H x v vl vu lo hi sl Q I rx hs pl pu ?_
  unfold cutD at e
  split at e
  · cases e
    obtain ⟨a, vs, rfl, ha, ra⟩ := hr.lst
    exact .inl ⟨a, vs, rfl, rd_sql ha, fun p hp => frz_lst hp (ra.cut lo hi) q⟩
  · rename_i ds
    cases e
    have h2 := rep_of_tup hr
    obtain ⟨a, vs, rfl, ha, ra⟩ := hr.tup
    refine .inr (.inl ⟨a, vs, rfl, ha, fun hw => ?_, fun _ p hp => frz_tup hp (ra.cut lo hi) q⟩)
    have : cutL ds lo hi = ds := by
      unfold cutL
      rw [← ra.length, hw.1, hw.2]
      simp [ra.length]
    rw [this] at q
    exact q H _ same_refl h2
  · split at e
    · rename_i z hl
      cases e
      exact .inr (.inr ⟨z, hr.str, by rw [sz_eq]; exact hl, q H _ same_refl rfl⟩)
    · cases e
  · cases e
theorem d_sl {e : Expr} {lo hi : Option Expr} {me : EM D} {ml mh : EM (Option Int)} {p2 : Pos} (he : PE X e (tE L Wx me)) (hl : PO X lo (tPt L Wx ml)) (hh : PO X hi (tPt L Wx mh)) : PE X (.Subscript e (.Slice lo hi none p2) pos) (tE L Wx (eSl me ml mh)) :=
  PE.weak (pe_slice sl_D he hl hh) fun σ H Q q => by
    obtain ⟨B, W, ρ, R, q⟩ := q
    refine ⟨B, W, ρ, R, M.wp_mono (fun r p => p.imp fun d ρ1 W1 H1 S1 R1 z v hv => ?_) (wp_seqE q)⟩
    refine ⟨B, W1, ρ1, R1, M.wp_mono (fun r p => p.imp fun l ρ2 W2 H2 S2 R2 z2 => ?_) (wp_seqE z)⟩
    refine ⟨B, W2, ρ2, R2, M.wp_mono (fun r p => p.imp fun h ρ3 W3 H3 S3 R3 z3 => ?_) (wp_seqE z2)⟩
    cases e : cutD d l h with
    | none => rw [e] at z3; exact z3.elim
    | some res =>
      rw [e] at z3
      refine ⟨W3, d, res, R3.wok, .inl ((hv.tr S2.tr).tr S3.tr), e, fun H' w s hw => ?_⟩
      obtain ⟨R4, S4⟩ := R3.same s
      exact z3 W3 H' S4 R4 w hw
/-! ### starred items -/
theorem a_star {e : Expr} {es : List Expr} {p : Pos} {ma : EM D} {mr : EM (List D)} (he : PE X e (tE L Wx ma)) (hr : PA X es (tAs L Wx mr)) (hs : starEach (.Starred e p :: es) X.env = (true, eval e X.env) :: starEach es X.env := by rfl) :
    PA X (.Starred e p :: es) (tAs L Wx (eStar ma mr)) := PA.weak (StX.pa_star he hr hs) fun σ H Q q => by
  obtain ⟨B, W, ρ, R, q⟩ := q
  refine ⟨B, W, ρ, R, M.wp_mono (fun r p => p.imp fun x ρ1 W1 H1 S1 R1 z v hv => ?_) (wp_seqE q)⟩
  split at z
  · obtain ⟨a, vs, rfl, ⟨o, ha⟩, ra⟩ := hv
    exact ⟨a, vs, rfl, .inr (.inl (.inr ⟨o, ha⟩)), B, W1, ρ1, R1, M.wp_mono (fun r p => p.imp fun xs ρ2 W2 H2 S2 R2 z2 us hu => wp_retE R2 z2 _ ((ra.tr S2.tr).append hu)) (wp_seqE z)⟩
  · obtain ⟨a, vs, rfl, ha, ra⟩ := hv
    exact ⟨a, vs, rfl, .inl ha, B, W1, ρ1, R1, M.wp_mono (fun r p => p.imp fun xs ρ2 W2 H2 S2 R2 z2 us hu => wp_retE R2 z2 _ ((ra.tr S2.tr).append hu)) (wp_seqE z)⟩
  · exact z.elim
/-! ### enumerate -/
theorem enD_get : ∀ (ds : List D) (j i : Nat), (enD j ds)[i]? = ds[i]?.map fun d => .node .tup [.int ((j + i : Nat) : Int), d]
  | [], j, i => by simp [enD]
  | d :: ds, j, 0 => by simp [enD]
  | d :: ds, j, i + 1 => by
    show (enD (j + 1) ds)[i]? = _
    rw [enD_get ds (j + 1) i]
    simp only [List.getElem?_cons_succ]
    congr 2
    funext d
    congr 4
    omega
theorem enD_length : ∀ (ds : List D) (j : Nat), (enD j ds).length = ds.length
  | [], _ => rfl
  | d :: ds, j => by simp [enD, enD_length ds]
theorem itd_enum {a : Addr} {ds : List D} {vs : List V} (h : At L H a .lst vs) (r : RepL L W H ds vs) : ItD L (Ite X.K a) (enD 0 ds) W H where
  go := fun i d W' H' t e => by
    rw [enD_get] at e
    obtain ⟨d0, e1, e2⟩ := Option.map_eq_some_iff.mp e
    subst e2
    obtain ⟨v, h1, h2⟩ := r.get e1
    obtain ⟨o, q⟩ := h.tr t
    refine ⟨⟨vs, v, .inl (.inr ⟨o, q⟩), h1⟩, fun x H'' y => ?_⟩
    obtain ⟨T, x', rfl, hT, rfl, y⟩ := y
    have := y vs (.inl (.inr ⟨o, q⟩))
    rw [h1] at this
    cases this
    have sm : Same H' (upd H' T (.tup [.int (i : Nat), v])) := sameN hT
    refine ⟨sm, T, _, rfl, .inl (.inl upd_same), .int (i : Nat), [v], rfl, ?_, v, [], rfl, (h2.tr t).tr ⟨fun b o q _ => sm b o q, fun _ _ q => q⟩, rfl⟩
    show V.int _ = V.int _
    simp
  stop := fun i W' H' t e => by
    obtain ⟨o, q⟩ := h.tr t
    rw [enD_length] at e
    exact ⟨vs, .inl (.inr ⟨o, q⟩), by rw [r.length]; exact e⟩
theorem itd_enT {a : Addr} {ds : List D} {vs : List V} (h : At L H a .tup vs) (r : RepL L W H ds vs) : ItD L (Iten X.K a) (enD 0 ds) W H where
  go := fun i d W' H' t e => by
    rw [enD_get] at e
    obtain ⟨d0, e1, e2⟩ := Option.map_eq_some_iff.mp e
    subst e2
    obtain ⟨v, h1, h2⟩ := r.get e1
    have q : SqT X.K H' a vs := h.tr t
    refine ⟨⟨vs, v, q, h1⟩, fun x H'' y => ?_⟩
    obtain ⟨T, x', rfl, hT, rfl, y⟩ := y
    have := y vs q
    rw [h1] at this
    cases this
    have sm : Same H' (upd H' T (.tup [.int (i : Nat), v])) := sameN hT
    refine ⟨sm, T, _, rfl, .inl (.inl upd_same), .int (i : Nat), [v], rfl, ?_, v, [], rfl, (h2.tr t).tr ⟨fun b o q _ => sm b o q, fun _ _ q => q⟩, rfl⟩
    show V.int _ = V.int _
    simp
  stop := fun i W' H' t e => by
    have q : SqT X.K H' a vs := h.tr t
    rw [enD_length] at e
    exact ⟨vs, q, by rw [r.length]; exact e⟩
theorem i_enum {e : Expr} {m : EM D} {p tpos : Pos} {elts : List Expr} {kk : Nat} (hg : Gl X "enumerate") (hm : X.mg "enumerate" = none) (ha : PE X e (tE L Wx m)) (hs : starEach [e] X.env = [(false, eval e X.env)] := by rfl) :
    PI X (.Tuple elts kk tpos) (.Call (.Name "enumerate" p) [e] [] pos) (tI L Wx (eEnum m)) := PI.weak (pi_enLT hg hm (pa_cons ha pa_nil hs) hs) fun σ H R q => by
  obtain ⟨B, W, ρ, RR, q⟩ := q
  refine ⟨B, W, ρ, RR, M.wp_mono (fun r p => p.imp fun d ρ1 W1 H1 S1 R1 z v hv => ?_) (wp_seqE q)⟩
  cases e : enumO d with
  | none => rw [e] at z; exact z.elim
  | some ds =>
    rw [e] at z
    unfold enumO at e
    split at e
    · cases e
      obtain ⟨a, vs, rfl, ⟨o, ha⟩, ra⟩ := hv
      exact ⟨a, vs, rfl, .inl ⟨.inl (.inr ⟨o, ha⟩), wp_retE R1 z _ (itd_enum ⟨o, ha⟩ ra)⟩⟩
    · cases e
      obtain ⟨a, vs, rfl, ha, ra⟩ := hv
      exact ⟨a, vs, rfl, .inr ⟨ha, wp_retE R1 z _ (itd_enT ha ra)⟩⟩
    · cases e
/-! ### names of the module -/
theorem d_glob {x : Str} {v : V} {u : Value} {d : D} (hg : Gl X x) (hm : X.mg x = some u) (r : L2.RelV v u) (hr : ∀ W H, Rep L W H d v) (hd : (x == ("__debug__" : Str)) = false := by decide) : PE X (.Name x pos) (tE L Wx (eC d)) := d_const (pe_glob hg hm r hd) hr
theorem q_glob {x : Str} {v : V} {u : Value} {d : D} (hg : Gl X x) (hm : X.mg x = some u) (r : L2.RelV v u) (hr : ∀ W H, Rep L W H d v) (hd : (x == ("__debug__" : Str)) = false := by decide) : PE X (.Name x pos) (tQ L fun _ => some d) := q_const (pe_glob hg hm r hd) hr
/-! ### l.index(x) -/
mutual
theorem rep_dp : ∀ {d : D} {v : V}, Rep L W H d v → okS d = true → Dp X.K H v (encD d)
  | .non, v, h, _ => by rw [show v = _ from h]; exact .non
  | .bl b, v, h, _ => by rw [show v = _ from h]; exact .bl b
  | .int i, v, h, _ => by rw [show v = _ from h]; exact .int i
  | .str x, v, h, _ => by rw [show v = _ from h]; exact .str x
  | .wld _, _, _, o => by simp [okS] at o
  | .node .lst xs, v, ⟨a, vs, e, ⟨od, ha⟩, hr⟩, o => by
    subst e
    simp only [encD]
    exact .lst (.inl (.inr ⟨od, ha⟩)) (repl_dp hr (by simpa [okS] using o))
  | .node .tup xs, v, ⟨a, vs, e, ha, hr⟩, o => by
    subst e
    simp only [encD]
    exact .tup ha (repl_dp hr (by simpa [okS] using o))
  | .node (.dct _) _, _, _, o => by simp [okS] at o
  | .node (.dctT _) _, _, _, o => by simp [okS] at o
  | .node (.obj _) _, _, _, o => by simp [okS] at o
theorem repl_dp : ∀ {ds : List D} {vs : List V}, RepL L W H ds vs → okSL ds = true → DpAll X.K H vs (encL ds)
  | [], vs, h, _ => by rw [show vs = _ from h]; exact .nil
  | d :: ds, vs, ⟨v, w, e, h1, h2⟩, o => by
    subst e
    simp only [okSL, Bool.and_eq_true] at o
    exact .cons (rep_dp h1 o.1) (repl_dp h2 o.2)
end
theorem encL_map : ∀ ds : List D, encL ds = ds.map encD
  | [] => rfl
  | d :: ds => by simp [encL, encL_map ds]
theorem ixGo_spec {y : PyData} : ∀ {ds : List D} {j k : Nat}, ixGo y ds j = some k → ∃ i z, k = j + i ∧ (encL ds)[i]? = some z ∧ PyData.eqv z y = true ∧ ∀ m z', m < i → (encL ds)[m]? = some z' → PyData.eqv z' y = false
  | [], _, _, h => by simp [ixGo] at h
  | d :: ds, j, k, h => by
    unfold ixGo at h
    split at h
    · rename_i e
      cases h
      exact ⟨0, encD d, rfl, rfl, e, fun m z' hm => absurd hm (Nat.not_lt_zero _)⟩
    · rename_i e
      obtain ⟨i, z, h1, h2, h3, h4⟩ := ixGo_spec h
      refine ⟨i + 1, z, by omega, by simpa [encL] using h2, h3, fun m z' hm hz => ?_⟩
      cases m with
      | zero =>
        have : encD d = z' := by simpa [encL] using hz
        rw [← this]
        simpa using e
      | succ m => exact h4 m z' (by omega) (by simpa [encL] using hz)
theorem d_index {o e : Expr} {apos cpos : Pos} {mo ma : EM D} (hu : X.A.units + 65 < cLine) (ho : PE X o (tE L Wx mo)) (ha : PE X e (tE L Wx ma))
    (hbase : attributeBase o "index" X.env (eval o X.env) = eval o X.env := by rfl) (hline : (apos.endLine == cpos.line) = true := by rfl) (hs : starEach [e] X.env = (false, eval e X.env) :: starEach [] X.env := by rfl) :
    PE X (.Call (.Attribute o "index" apos) [e] [] cpos) (tE L Wx (eIndex mo ma)) :=
  PE.weak (pe_bm F.plainAttrs_list F.slot_list_index F.type_list_index (mt_indexD hu) ho (pa_cons ha pa_nil hs) hbase (by rw [hs]; rfl) hline hs rfl) fun σ H Q q => by
    obtain ⟨B, W, ρ, R, q⟩ := q
    refine ⟨B, W, ρ, R, M.wp_mono (fun r p => p.imp fun d ρ1 W1 H1 S1 R1 z v hv => ?_) (wp_seqE q)⟩
    split at z
    case h_2 => exact z.elim
    case h_1 ds =>
      have hv0 := hv
      obtain ⟨a, vs, rfl, ⟨od, hat⟩, ra⟩ := hv
      refine ⟨.inl ⟨rfl, vs, .inl (.inr ⟨od, hat⟩)⟩, B, W1, ρ1, R1, M.wp_mono (fun r p => p.imp fun y ρ2 W2 H2 S2 R2 z2 u hu => ?_) (wp_seqE z)⟩
      cases e : indexO (.node .lst ds) y with
      | none => rw [e] at z2; exact z2.elim
      | some res =>
        rw [e] at z2
        unfold indexO at e
        simp only at e
        split at e
        case isFalse => cases e
        case isTrue ok =>
          simp only [Bool.and_eq_true] at ok
          obtain ⟨⟨⟨k1, k2⟩, k3⟩, k4⟩ := ok
          obtain ⟨j, e1, rfl⟩ := Option.map_eq_some_iff.mp e
          obtain ⟨i, zz, hi, h2, h3, h4⟩ := ixGo_spec e1
          have : i = j := by omega
          subst this
          have dl : Dp X.K H2 (V.ref a) (.list (encL ds)) := .lst (.inl (.inr ⟨od, S2.tr.keep _ _ hat fun z => z⟩)) (repl_dp (ra.tr S2.tr) k1)
          exact ⟨a, u, encD y, encL ds, i, zz, rfl, rfl, dl, rep_dp hu k2, k3, k4, h2, h3, h4, wp_retE R2 z2 _ rfl⟩
end
end DL

/-! D21: dict displays. -/
namespace DL
open PySem PySem.Spec PyProof.Rows L2 PySem.W

def trsD {K : PySem.W.Frag} (L : Ly K) (Wx : WX) (ms : List (EM D × EM D)) : List (TE × TE) := ms.map fun p => (tE L Wx p.1, tE L Wx p.2)
section
variable {X : Cx} {L : Ly X.K} {Wx : WX} {B : Addr → Prop} {W W1 W' : WM} {H H1 H' : Hp} {σ : L2.St} {ρ ρ' : Rho} {pos : Pos}
theorem pp_nil : PPs X pos [] [] (trsD L Wx []) := pps_nil
theorem pp_cons {k v : Expr} {ks : List (Option Expr)} {vs : List Expr} {mk mv : EM D} {ms : List (EM D × EM D)} (hk : PE X k (tE L Wx mk)) (hv : PE X v (tE L Wx mv)) (hr : PPs X pos ks vs (trsD L Wx ms)) : PPs X pos (some k :: ks) (v :: vs) (trsD L Wx ((mk, mv) :: ms)) := pps_cons hk hv hr
theorem pairs_of {k : List Key × List D → Rho → WM → Hp → Prop} {Wy : WX} : ∀ (ms : List (EM D × EM D)) {ks : List Key} {ds : List D} {vs : List V} {ρ : Rho} {W : WM} {H : Hp} {R : List (V × V) → Hp → Prop}, Rel L B W H σ ρ → ks.length = vs.length → RepL L W H ds vs → (ePairs ms ks ds ρ).wp (PostE L B Wx W H σ k) →
    (∀ kvs W2 H2 ρ2 ks' ds' vs', kvs.length = ms.length → Rel L B W2 H2 σ ρ2 → Stp B W H W2 H2 → ks'.length = vs'.length → mergeK (ks.zip vs) kvs = ks'.zip vs' → RepL L W2 H2 ds' vs' → k (ks', ds') ρ2 W2 H2 → R (kvs.map fun kv => (kV kv.1, kv.2)) H2) → tPairs (trsD L Wx ms) σ H R := by
  intro ms
  induction ms with
  | nil =>
    intro ks ds vs ρ W H R R0 hl r0 q f
    exact f [] W H ρ ks ds vs rfl R0 Stp.refl hl rfl r0 (wp_retE R0 q)
  | cons p ms ih =>
    intro ks ds vs ρ W H R R0 hl r0 q f
    have q : (bindE (p.1 ρ) fun x ρ1 => bindE (p.2 ρ1) fun y ρ2 => match dKey x with
      | some k => ePairs ms (putKs ks k) (putDs ks ds k y) ρ2
      | none => .stuck).wp (PostE L B Wx W H σ k) := q
    refine ⟨B, W, ρ, R0, M.wp_mono (fun r p => p.imp fun x ρ1 W1 H1 S1 R1 z v hv => ?_) (wp_seqE q)⟩
    refine ⟨B, W1, ρ1, R1, M.wp_mono (fun r p => p.imp fun y ρ2 W2 H2 S2 R2 z2 u hu => ?_) (wp_seqE z)⟩
    cases e : dKey x with
    | none => rw [e] at z2; exact z2.elim
    | some kk =>
      rw [e] at z2
      obtain ⟨e1, e2⟩ := putK_zip (k := kk) (v := u) hl
      have S12 := S1.trans S2
      refine ih R2 e2 ((r0.tr S12.tr).putDs (ks := ks) (k := kk) hu) z2 fun kvs W3 H3 ρ3 ks' ds' vs' h1 h2 h3 h4 h5 h6 h7 => ?_
      have := f ((kk, u) :: kvs) W3 H3 ρ3 ks' ds' vs' (by simp [h1]) h2 (S12.trans h3) h4 (by
        show mergeK (putK (ks.zip vs) kk u) kvs = _
        rw [e1]; exact h5) h6 h7
      rw [dKey_kV e (.inl hv)]
      exact this
theorem f_disp {keys : List (Option Expr)} {values : List Expr} {ms : List (EM D × EM D)} (h : PPs X pos keys values (trsD L Wx ms)) (hl15 : ms.length ≤ 15) (hall : keys.all (·.isSome) = true) (hl : keys.length = values.length) (h0 : keys ≠ []) (h15 : keys.length ≤ 15) :
    PE X (.Dict keys values pos) (tF L Wx (eDisp ms)) := PE.weak (pe_disp h hall hl h0 h15) fun σ H Q q => by
  obtain ⟨B, W, ρ, R, q⟩ := q
  intro p hp
  obtain ⟨R1, S1, nB⟩ := R.newB (o := .dK []) hp
  have q1 := wp_seqE (M.wp_mono (fun r p => p.from S1) q)
  have q2 : (ePairs ms [] [] ρ).wp (PostE L (fun b => B b ∨ b = p) Wx W (upd H p (.dK [])) σ fun a ρ1 W1 H1 => (retE (Tag.dct a.1, a.2) ρ1).wp (PostE L B Wx W1 H1 σ fun p ρ' W' H' => ∀ a vs, ¬ B a → Rel L (fun b => B b ∨ b = a) W' H' σ ρ' → OAt L H' a p.1 vs → RepL L W' H' p.2 vs → Q (.ref a) H')) := by
    refine M.wp_mono (fun r z => ?_) q1
    cases r with
    | ok a => exact fun W' H' S R => z W' H' ⟨S.tr, fun b hb => S.kb b (.inl hb)⟩ (R.lessB fun b h => .inl h)
    | error e => exact fun W' H' c dd S R er => z W' H' c dd ⟨S.tr, fun b hb => S.kb b (.inl hb)⟩ (R.lessB fun b h => .inl h) er
  refine pairs_of (Wy := Wx) ms (ks := []) (ds := []) (vs := []) R1 rfl rfl q2 fun kvs W2 H2 ρ2 ks' ds' vs' h1 h2 h3 h4 h5 h6 h7 => ?_
  have hp2 : H2 p = some (.dK []) := (h3.kb p (.inr rfl)).trans upd_same
  obtain ⟨R4, S4⟩ := h2.updB (o := .dK (mergeK [] kvs)) (by rw [hp2]; trivial) nB
  refine ⟨hp2, kvs, rfl, by omega, ?_⟩
  have e5 : mergeK [] kvs = ks'.zip vs' := h5
  exact h7 W2 _ S4 (R4.lessB fun b h => .inl h) p vs' nB R4 ⟨h4, by rw [upd_same, e5]⟩ (h6.tr S4.tr)
end
end DL

/-! D22: small rules for what a program prints. -/
namespace DL
open PySem PySem.Spec PyProof.Rows L2 PySem.W
section
variable {X : Cx} {L : Ly X.K} {Wx : WX} {B : Addr → Prop} {W W1 W' : WM} {H H1 H' : Hp} {σ : L2.St} {ρ ρ' : Rho} {pos : Pos}
theorem d_neg {a : Expr} {m : EM D} (ha : PE X a (tE L Wx m)) : PE X (.UnaryOp .USub a pos) (tE L Wx (eNeg m)) := PE.weak (pe_un un_neg ha) fun σ H Q q => by
  obtain ⟨B, W, ρ, R, q⟩ := q
  refine ⟨B, W, ρ, R, M.wp_mono (fun r p => p.imp fun d ρ1 W1 H1 S1 R1 z v hv => ?_) (wp_seqE q)⟩
  cases d with
  | int i =>
    obtain rfl : v = _ := hv
    exact ⟨i, rfl, wp_retE R1 z _ rfl⟩
  | _ => exact z.elim
theorem t_pc {op : CmpOp} {a b : Expr} {m : EM D} (h : PC X op a b (tE L Wx m)) (hm : behindInMarks op b = false := by rfl) : PT X (.Compare a [op] [b] pos) (tB' L Wx (eTst m)) := PT.weak (pt_cmp h hm) fun σ H Q q => by
  obtain ⟨B, W, ρ, R, q⟩ := q
  refine ⟨B, W, ρ, R, M.wp_mono (fun r p => p.imp fun d ρ1 W1 H1 S1 R1 z v hv => ?_) (wp_seqE q)⟩
  cases d with
  | bl b => exact ⟨b, hv, wp_retE R1 z⟩
  | _ => exact z.elim
theorem fok0 {P : Program} {w : World} {K : PySem.W.Frag} {L : Ly K} {mg : Str → Option Value} {base : Heap} {f : Addr} {fd : FuncData} {ps : List Str} {k : Nat} : FnOk P w K mg base (L2.CX P w) k f fd ps (spD L ps.length fun _ => .stuck) :=
  ⟨fun vs H Q E h => h.1, fun A outer s H args us vs Q E hr he hb hv h => by
    obtain ⟨_, W, ds, _, _, q⟩ := h
    exact q.elim⟩
end
theorem bt_len : bootBuiltins "len" = some (.builtin "len") := boot_len
theorem bt_all : bootBuiltins "all" = some (.builtin "all") := by first | rfl | kernel_rfl
theorem bt_any : bootBuiltins "any" = some (.builtin "any") := by first | rfl | kernel_rfl
theorem bt_sum : bootBuiltins "sum" = some (.builtin "sum") := by first | rfl | kernel_rfl
theorem bt_sorted : bootBuiltins "sorted" = some (.builtin "sorted") := by first | rfl | kernel_rfl
theorem bt_isinstance : bootBuiltins "isinstance" = some (.builtin "isinstance") := by first | rfl | kernel_rfl
theorem bt_max : bootBuiltins "max" = some (.builtin "max") := by first | rfl | kernel_rfl
theorem bt_min : bootBuiltins "min" = some (.builtin "min") := by first | rfl | kernel_rfl
theorem bt_tuple : bootBuiltins "tuple" = some (.type "tuple") := by first | rfl | kernel_rfl
theorem bt_list : bootBuiltins "list" = some (.type "list") := by first | rfl | kernel_rfl
theorem bt_dict : bootBuiltins "dict" = some (.type "dict") := by first | rfl | kernel_rfl
theorem bt_int : bootBuiltins "int" = some (.type "int") := by first | rfl | kernel_rfl
theorem bt_bool : bootBuiltins "bool" = some (.type "bool") := by first | rfl | kernel_rfl
theorem bt_str : bootBuiltins "str" = some (.type "str") := by first | rfl | kernel_rfl
/-! isinstance among the built-in types -/
section
variable {K : PySem.W.Frag} {L : Ly K}
theorem ia_of {T : String} {p : Nat → Bool} (h : ∀ k, k < 7 → PySem.W.kitOne K (tyV L k) (.type T) = some (p k)) : IsiA L (.type T) fun k => if k < 7 then some (p k) else none := fun k b e => by
  dsimp only at e
  split at e
  · rename_i hk
    cases e
    exact ⟨h k hk, fun c hc => by omega⟩
  · cases e
theorem lt7 {Q : Nat → Prop} (h0 : Q 0) (h1 : Q 1) (h2 : Q 2) (h3 : Q 3) (h4 : Q 4) (h5 : Q 5) (h6 : Q 6) : ∀ k, k < 7 → Q k
  | 0, _ => h0
  | 1, _ => h1
  | 2, _ => h2
  | 3, _ => h3
  | 4, _ => h4
  | 5, _ => h5
  | 6, _ => h6
  | n + 7, h => by omega
theorem iaB_int : IsiA L (.type "int") isi_int := ia_of (lt7 (kit_ty (by decide +kernel)) (kit_ty (by decide +kernel)) (kit_ty (by decide +kernel)) (kit_ty (by decide +kernel)) (kit_ty (by decide +kernel)) (kit_ty (by decide +kernel)) (kit_ty (by decide +kernel)))
theorem iaB_bool : IsiA L (.type "bool") isi_bool := ia_of (lt7 (kit_ty (by decide +kernel)) (kit_ty (by decide +kernel)) (kit_ty (by decide +kernel)) (kit_ty (by decide +kernel)) (kit_ty (by decide +kernel)) (kit_ty (by decide +kernel)) (kit_ty (by decide +kernel)))
theorem iaB_str : IsiA L (.type "str") isi_str := ia_of (lt7 (kit_ty (by decide +kernel)) (kit_ty (by decide +kernel)) (kit_ty (by decide +kernel)) (kit_ty (by decide +kernel)) (kit_ty (by decide +kernel)) (kit_ty (by decide +kernel)) (kit_ty (by decide +kernel)))
theorem iaB_list : IsiA L (.type "list") isi_list := ia_of (lt7 (kit_ty (by decide +kernel)) (kit_ty (by decide +kernel)) (kit_ty (by decide +kernel)) (kit_ty (by decide +kernel)) (kit_ty (by decide +kernel)) (kit_ty (by decide +kernel)) (kit_ty (by decide +kernel)))
theorem iaB_tuple : IsiA L (.type "tuple") isi_tuple := ia_of (lt7 (kit_ty (by decide +kernel)) (kit_ty (by decide +kernel)) (kit_ty (by decide +kernel)) (kit_ty (by decide +kernel)) (kit_ty (by decide +kernel)) (kit_ty (by decide +kernel)) (kit_ty (by decide +kernel)))
theorem iaB_dict : IsiA L (.type "dict") isi_dict := ia_of (lt7 (kit_ty (by decide +kernel)) (kit_ty (by decide +kernel)) (kit_ty (by decide +kernel)) (kit_ty (by decide +kernel)) (kit_ty (by decide +kernel)) (kit_ty (by decide +kernel)) (kit_ty (by decide +kernel)))
theorem kit_any2 {t c1 c2 : Value} {b1 b2 : Bool} (h1 : PySem.W.kitOne K t c1 = some b1) (h2 : PySem.W.kitOne K t c2 = some b2) : PySem.W.kitAny K t [c1, c2] = some (b1 || b2) := by
  unfold PySem.W.kitAny
  rw [h1]
  cases b1 with
  | true => rfl
  | false =>
    unfold PySem.W.kitAny
    rw [h2]
    cases b2 <;> rfl
theorem iaB_list_tuple : IsiAT L [.type "list", .type "tuple"] isi_list_tuple := fun k b e => by
  unfold isi_list_tuple at e
  split at e
  · rename_i hk
    cases e
    exact ⟨kit_any2 (iaB_list k (k == 4) (by unfold isi_list; rw [if_pos hk])).1 (iaB_tuple k (k == 5) (by unfold isi_tuple; rw [if_pos hk])).1, fun c hc => by omega⟩
  · cases e
end
section
variable {X : Cx}
theorem ik_list_tuple : Paired ClsV [.ty "list", .ty "tuple"] [.type "list", .type "tuple"] := .cons (.ty _) (.cons (.ty _) .nil)
theorem ipa_lt (h1 : X.mg "list" = none) (h2 : X.mg "tuple" = none) {p1 p2 : Pos} (g1 : Gl X "list") (g2 : Gl X "tuple") : PA X [.Name "list" p1, .Name "tuple" p2] (tCons (tC (.ty "list")) (tCons (tC (.ty "tuple")) tNil)) :=
  pa_cons (pe_bltn g1 h1 bt_list rfl) (pa_cons (pe_bltn g2 h2 bt_tuple rfl) pa_nil)
theorem ipt_list_tuple (σ : L2.St) (R : List V → Hp → Prop) (H : Hp) (h : R [.ty "list", .ty "tuple"] H) : tCons (tC (.ty "list")) (tCons (tC (.ty "tuple")) tNil) σ H R := h
end
end DL
namespace DL
open PySem PySem.Spec PyProof.Rows L2 PySem.W
theorem repl_rev {K : PySem.W.Frag} {L : Ly K} {W : WM} {H : Hp} : ∀ {ds : List D} {vs : List V}, RepL L W H ds vs → RepL L W H ds.reverse vs.reverse
  | [], vs, r => by rw [show vs = [] from r]; rfl
  | _ :: _, _, ⟨v, r, e, h, t⟩ => by
    subst e
    rw [List.reverse_cons, List.reverse_cons]
    exact (repl_rev t).append ⟨v, [], rfl, h, rfl⟩
/-- defaults that fill up, arguments by name -/
theorem bn_dflt {K : PySem.W.Frag} {L : Ly K} {x qual : Str} {params : Arguments} {body : List Stmt} {scope : Scope} {dvs : List V} {kws : List (Str × V)} {f : Addr} {fd : FuncData} {ps : List Str} (F : FunD K x qual params body scope dvs kws f fd) (n : Nat) (ks : List Str)
    (g : {α : Type} → List α → List α → List α → List α) (dD : List D) (hD : ∀ W H, RepL L W H dD dvs) (hd : dvs ≠ [])
    (h : ∀ (T : Addr) (kV doc pm : Value) (an : Option Addr) (cdv ct : Value) (us its ws : List Value), us.length = n → its.length = dvs.length → ws.length = ks.length →
      (∃ k, bindArgs (PySem.W.fnOf x qual params body scope (.ref T) kV doc pm an cdv ct) ⟨us, ks.zip ws⟩ = seqItems? (.ref T) >>= k ∧ k (some its.toArray) = pure (ps.zip (g us its ws))) ∧ (g us its ws).length = ps.length)
    (hv : ∀ {vs ds zs : List V} {us its ws : List Value}, Vals vs us → Vals ds its → Vals zs ws → us.length = n → its.length = dvs.length → ws.length = ks.length → Vals (g vs ds zs) (g us its ws))
    (hr : ∀ (W : WM) (H : Hp) (ds es : List D) (vs zs : List V), RepL L W H ds vs → RepL L W H dD dvs → RepL L W H es zs → vs.length = n → zs.length = ks.length → RepL L W H (g ds dD es) (g vs dvs zs)) : BnD K L fd ps n ks fun ds es => g ds dD es := ⟨fun s us ws vs zs X l1 l2 r1 r2 => by
  obtain ⟨oc, od, dV, kV, doc, pm, an, cdv, ct, osl, rfl, lk, hcd, hDv, hK⟩ := F.ex
  rcases hDv with ⟨e, _⟩ | ⟨_, T, o, its, m, rfl, lT, oT, rT⟩
  · exact absurd e hd
  · obtain ⟨⟨k, e1, e2⟩, hl⟩ := h T kV doc pm an cdv ct us its ws l1 rT.length.symm l2
    refine ⟨g us its ws, g vs dvs zs, BindsTo.of_looks fun M => ?_, hl, hv r1 rT r2 l1 rT.length.symm l2, fun W H ds es h1 h2 => hr W H ds es vs zs h1 (hD W H) h2 (r1.length.trans l1) (r2.length.trans l2)⟩
    rw [e1]
    exact looks_items X lT oT (.of_pure e2)⟩
end DL

/-! D23: the pool of a law and its draws. -/
namespace DL
open PySem PySem.Spec PyProof.Rows L2 PySem.W
/-- the pool at a: the script's list (locked), the place, the rest, the count, the seed -/
def PoolAt (H : Hp) (a : Addr) : Prop := ∃ (b : Addr) (xs : List Int) (o : Obj) (p g c s : Int), H a = some (.lst [.ref b, .int p, .int g, .int c, .int s]) ∧ H b = some (.frz o (.lst (xs.map V.int))) ∧ 0 ≤ p
def wokP (W : WM) (k : Nat) (H : Hp) (a : Addr) : Prop := k = 0 ∧ PoolAt H a
theorem wstP (W : WM) (k : Nat) (H H' : Hp) (a : Addr) (h : W a = some k) (t : ∀ b o, H b = some o → ¬ Mut (some o) → H' b = some o) (e : ∀ b, (W b).isSome = true → H' b = H b) (q : wokP W k H a) : wokP W k H' a := by
  obtain ⟨hk, b, xs, o, p, g, c, s, h1, h2, h3⟩ := q
  exact ⟨hk, b, xs, o, p, g, c, s, by rw [e a (by rw [h]; rfl)]; exact h1, t _ _ h2 fun z => z, h3⟩
theorem wmuP (W : WM) (k : Nat) (H : Hp) (a : Addr) (q : wokP W k H a) : Mut (H a) := by
  obtain ⟨hk, b, xs, o, p, g, c, s, h1, _⟩ := q
  rw [h1]; trivial
/-- the readings of _law_draw's statements -/
def rdP (K : PySem.W.Frag) (k : Int) : TE := tOp (rIx K) (tVar 0) (tC (.int k))
abbrev rAdd' : R2 := rI0 fun i j => .int (i + j)
abbrev rMul' : R2 := rI CMul fun i j => .int (i * j)
abbrev rMod' : R2 := rI (fun _ j => 0 < j) fun i j => .int (i % j)
abbrev rDiv' : R2 := rI CDiv fun i j => .int (i / j)
abbrev tInt' (t : TE) : TE := tCB (fun xs H Q => (∃ i, xs = [.int i] ∧ Q (.int i) H) ∨ ∃ k, xs = [.bl k] ∧ Q (.int (if k then 1 else 0)) H) (tCons t tNil)
def stP (k : Int) (te : TE) : TS := tAsg te (gSub (tVar 0) (tC (.int k)) rSetL)
def t_draw (K : PySem.W.Frag) : TS :=
  tSeq (stP 3 (tOp rAdd' (rdP K 3) (tC (.int 1))))
  (tSeq (tIfS (tAnd (tTest (tOp rEq (rdP K 2) (tC (.int 0)))) (tTest (tOp (rI0 fun i j => .bl (decide (i < j))) (rdP K 1) (tCB (fun xs H Q => ∃ x n, xs = [x] ∧ LenV K x H n ∧ Q (.int n) H) (tCons (rdP K 0) tNil)))))
    (tSeq (tAsg (tOp (rIx K) (rdP K 0) (rdP K 1)) (gName 2)) (tSeq (stP 1 (tOp rAdd' (rdP K 1) (tC (.int 1))))
      (tIfS (tTest (tOp (rI0 fun i j => .bl (decide (j ≤ i))) (tVar 2) (tOp (rI CPow fun i j => .int (i ^ j.toNat)) (tC (.int 10)) (tC (.int 18))))) (stP 2 (tVar 2))
        (stP 4 (tOp rMod' (tInt' (tOp rAdd' (tOp rAdd' (tOp rMul' (rdP K 4) (tC (.int 41))) (tVar 2)) (tC (.int 5417)))) (tC (.int 2147483629)))))))
    tNext)
  (tSeq (tIfS (tTest (tOp (rI0 fun i j => .bl (decide (j < i))) (rdP K 2) (tC (.int 0))))
    (tSeq (tAsg (tOp rMod' (tInt' (rdP K 2)) (tVar 1)) (gName 3)) (tSeq (stP 2 (tOp rDiv' (rdP K 2) (tVar 1))) (tRet (tVar 3)))) tNext)
  (tSeq (tAsg (tOp rMod' (tInt' (tOp rAdd' (tOp rAdd' (tOp rMul' (rdP K 4) (tC (.int 40014))) (tOp rMul' (rdP K 3) (tC (.int 119267)))) (tC (.int 7817)))) (tC (.int 2147483647))) (gName 4))
  (tSeq (tAsg (tOp rMod' (tInt' (tOp rMul' (tVar 4) (tOp rAdd' (tOp rDiv' (tVar 4) (tC (.int 1021))) (tC (.int 69621))))) (tC (.int 2147483647))) (gName 4))
  (tSeq (tAsg (tOp rMod' (tInt' (tOp rMul' (tVar 4) (tOp rAdd' (tOp rDiv' (tVar 4) (tC (.int 2029))) (tC (.int 48271))))) (tC (.int 2147483399))) (gName 4))
    (tRet (tOp rMod' (tInt' (tOp rDiv' (tVar 4) (tC (.int 32)))) (tVar 1))))))))
/-- the state in _law_draw -/
structure DS (a b : Addr) (n : Int) (xs : List Int) (o : Obj) (σ : L2.St) (H : Hp) (p g c s : Int) : Prop where
  s0 : σ[0]? = some (some (.ref a))
  s1 : σ[1]? = some (some (.int n))
  ha : H a = some (.lst [.ref b, .int p, .int g, .int c, .int s])
  hb : H b = some (.frz o (.lst (xs.map V.int)))
section
variable {K : PySem.W.Frag} {a b : Addr} {n : Int} {xs : List Int} {o : Obj} {σ : L2.St} {H : Hp} {p g c s : Int}
theorem DS.rd (S : DS a b n xs o σ H p g c s) {k : Int} {v : V} {Q : VK} (h : atI [.ref b, .int p, .int g, .int c, .int s] k = some v) (q : Q v H) : rdP K k σ H Q :=
  ⟨_, S.s0, .inl ⟨a, _, k, v, rfl, rfl, .inl (.inl S.ha), h, q⟩⟩
theorem DS.upd (S : DS a b n xs o σ H p g c s) {p' g' c' s' : Int} : DS a b n xs o σ (upd H a (.lst [.ref b, .int p', .int g', .int c', .int s'])) p' g' c' s' :=
  ⟨S.s0, S.s1, upd_same, by
    have hne : b ≠ a := fun e => by
      have h := S.hb
      rw [e, S.ha] at h
      cases h
    rw [upd_ne hne]; exact S.hb⟩
theorem DS.nm (S : DS a b n xs o σ H p g c s) {i : Nat} (hi : 2 ≤ i) (v : V) : DS a b n xs o (σ.set i (some v)) H p g c s :=
  ⟨by rw [List.getElem?_set_ne (by omega)]; exact S.s0, by rw [List.getElem?_set_ne (by omega)]; exact S.s1, S.ha, S.hb⟩
end
end DL
namespace DL
open PySem PySem.Spec PyProof.Rows L2 PySem.W
section
variable {K : PySem.W.Frag} {a b : Addr} {n : Int} {xs : List Int} {o : Obj} {σ : L2.St} {H : Hp} {p g c s : Int}
/-- what comes of a draw -/
def DrawEnd (a b : Addr) (n : Int) (H : Hp) (D : Ends) : Prop := ∀ (p g c s r : Int) (H' : Hp), 0 ≤ p → H' = upd H a (.lst [.ref b, .int p, .int g, .int c, .int s]) → 0 ≤ r → r < n → D.rt (.int r) H'
theorem small64' {i j : Int} (h0 : 0 ≤ i) (h1 : i < 9223372036854775808) : CMul i j := .inl ⟨by have : (2 : Int) ^ 64 = 18446744073709551616 := by decide
                                                                                                omega, by have : (2 : Int) ^ 64 = 18446744073709551616 := by decide
                                                                                                          omega⟩
theorem small64r {i j : Int} (h0 : 0 ≤ j) (h1 : j < 9223372036854775808) : CMul i j := .inr ⟨by have : (2 : Int) ^ 64 = 18446744073709551616 := by decide
                                                                                                omega, by have : (2 : Int) ^ 64 = 18446744073709551616 := by decide
                                                                                                          omega⟩
theorem set_get {σ : L2.St} {i : Nat} {v : V} (h : i < σ.length) : (σ.set i (some v))[i]? = some (some v) := List.getElem?_set_self h
theorem draw_rest {D : Ends} (S : DS a b n xs o σ H p g c s) (h0 : 0 < n) (h1 : n < 1073741824) (hp : 0 ≤ p) (hl : σ.length = 5) (e : DrawEnd a b n H D) :
    tSeq (tIfS (tTest (tOp (rI0 fun i j => .bl (decide (j < i))) (rdP K 2) (tC (.int 0))))
      (tSeq (tAsg (tOp rMod' (tInt' (rdP K 2)) (tVar 1)) (gName 3)) (tSeq (stP 2 (tOp rDiv' (rdP K 2) (tVar 1))) (tRet (tVar 3)))) tNext)
    (tSeq (tAsg (tOp rMod' (tInt' (tOp rAdd' (tOp rAdd' (tOp rMul' (rdP K 4) (tC (.int 40014))) (tOp rMul' (rdP K 3) (tC (.int 119267)))) (tC (.int 7817)))) (tC (.int 2147483647))) (gName 4))
    (tSeq (tAsg (tOp rMod' (tInt' (tOp rMul' (tVar 4) (tOp rAdd' (tOp rDiv' (tVar 4) (tC (.int 1021))) (tC (.int 69621))))) (tC (.int 2147483647))) (gName 4))
    (tSeq (tAsg (tOp rMod' (tInt' (tOp rMul' (tVar 4) (tOp rAdd' (tOp rDiv' (tVar 4) (tC (.int 2029))) (tC (.int 48271))))) (tC (.int 2147483399))) (gName 4))
      (tRet (tOp rMod' (tInt' (tOp rDiv' (tVar 4) (tC (.int 32)))) (tVar 1)))))) D σ H := by
  refine S.rd (v := .int g) rfl ⟨g, 0, rfl, rfl, decide (0 < g), rfl, ?_⟩
  dsimp only
  split
  · -- a digit of the rest
    refine S.rd (v := .int g) rfl (.inl ⟨g, rfl, _, S.s1, g, n, rfl, rfl, h0, ?_⟩)
    have S1 := S.nm (i := 3) (by decide) (.int (g % n))
    refine S1.rd (v := .int g) rfl ⟨_, S1.s1, g, n, rfl, rfl, ⟨h0, h1⟩, _, S1.s0, a, _, 2, 2, rfl, rfl, S1.ha, rfl, ?_⟩
    exact ⟨_, set_get (by omega), e p (g / n) c s (g % n) _ hp rfl (Int.emod_nonneg _ (by omega)) (Int.emod_lt_of_pos _ h0)⟩
  · -- the seed
    refine S.rd (v := .int s) rfl ⟨s, 40014, rfl, rfl, small64r (by decide) (by decide), S.rd (v := .int c) rfl ⟨c, 119267, rfl, rfl, small64r (by decide) (by decide), _, _, rfl, rfl, _, _, rfl, rfl, .inl ⟨_, rfl, _, _, rfl, rfl, (show (0 : Int) < 2147483647 by decide), ?_⟩⟩⟩
    dsimp only
    generalize hz1 : (s * 40014 + c * 119267 + 7817) % 2147483647 = z1
    have b1 : 0 ≤ z1 ∧ z1 < 2147483647 := by rw [← hz1]; exact ⟨Int.emod_nonneg _ (by decide), Int.emod_lt_of_pos _ (by decide)⟩
    have g1 := set_get (σ := σ) (i := 4) (v := .int z1) (by omega)
    refine ⟨_, g1, _, g1, _, _, rfl, rfl, ⟨by decide, by decide⟩, _, _, rfl, rfl, _, _, rfl, rfl, small64' b1.1 (by omega), .inl ⟨_, rfl, _, _, rfl, rfl, (show (0 : Int) < 2147483647 by decide), ?_⟩⟩
    dsimp only
    generalize hz2 : (z1 * (z1 / 1021 + 69621)) % 2147483647 = z2
    have b2 : 0 ≤ z2 ∧ z2 < 2147483647 := by rw [← hz2]; exact ⟨Int.emod_nonneg _ (by decide), Int.emod_lt_of_pos _ (by decide)⟩
    have g2 := set_get (σ := σ.set 4 (some (.int z1))) (i := 4) (v := .int z2) (by simp; omega)
    refine ⟨_, g2, _, g2, _, _, rfl, rfl, ⟨by decide, by decide⟩, _, _, rfl, rfl, _, _, rfl, rfl, small64' b2.1 (by omega), .inl ⟨_, rfl, _, _, rfl, rfl, (show (0 : Int) < 2147483399 by decide), ?_⟩⟩
    dsimp only
    generalize hz3 : (z2 * (z2 / 2029 + 48271)) % 2147483399 = z3
    have g3 := set_get (σ := (σ.set 4 (some (.int z1))).set 4 (some (.int z2))) (i := 4) (v := .int z3) (by simp; omega)
    have S3 := ((S.nm (i := 4) (by decide) (.int z1)).nm (i := 4) (by decide) (.int z2)).nm (i := 4) (by decide) (.int z3)
    refine ⟨_, g3, _, _, rfl, rfl, ⟨by decide, by decide⟩, .inl ⟨_, rfl, _, S3.s1, _, _, rfl, rfl, h0, ?_⟩⟩
    refine e p g c s _ H hp ?_ (Int.emod_nonneg _ (by omega)) (Int.emod_lt_of_pos _ h0)
    funext q
    unfold upd
    split
    · rename_i z; subst z; exact S.ha
    · rfl
theorem pure_draw {D : Ends} (S : DS a b n xs o σ H p g c s) (h0 : 0 < n) (h1 : n < 1073741824) (hp : 0 ≤ p) (hl : σ.length = 5) (e : DrawEnd a b n H D) : t_draw K D σ H := by
  have again : ∀ {σ' : L2.St} {p' g' c' s' : Int}, DS a b n xs o σ' (upd H a (.lst [.ref b, .int p', .int g', .int c', .int s'])) p' g' c' s' → DrawEnd a b n (upd H a (.lst [.ref b, .int p', .int g', .int c', .int s'])) D := fun S' p g c s r H' h1 h2 h3 h4 => e p g c s r H' h1 (by rw [h2, upd_upd]) h3 h4
  refine S.rd (v := .int c) rfl ⟨c, 1, rfl, rfl, _, S.s0, a, _, 3, 3, rfl, rfl, S.ha, rfl, ?_⟩
  have S1 := S.upd (p' := p) (g' := g) (c' := c + 1) (s' := s)
  refine S1.rd (v := .int g) rfl ⟨rfl, decide (V.int g = V.int 0), rfl, ?_⟩
  dsimp only
  split
  · refine S1.rd (v := .int p) rfl (S1.rd (v := .ref b) rfl ⟨.ref b, (xs.map V.int).length, rfl, .inl ⟨_, .inl (.inr ⟨o, S1.hb⟩), rfl⟩, p, _, rfl, rfl, decide (p < ((xs.map V.int).length : Int)), rfl, ?_⟩)
    dsimp only
    split
    · rename_i hlt
      have hlt : p < (xs.length : Int) := by simpa using hlt
      have hj : p.toNat < xs.length := by omega
      have hat : atI (xs.map V.int) p = some (.int xs[p.toNat]) := by
        have h := atI_nat (xs := xs.map V.int) (j := p.toNat) (v := .int xs[p.toNat]) (by simp [hj])
        rwa [Int.toNat_of_nonneg hp] at h
      generalize hv : xs[p.toNat] = v at hat
      refine S1.rd (v := .ref b) rfl (S1.rd (v := .int p) rfl (.inl ⟨b, _, p, _, rfl, rfl, .inl (.inr ⟨o, S1.hb⟩), hat, ?_⟩))
      have S2 := S1.nm (i := 2) (by decide) (.int v)
      refine S2.rd (v := .int p) rfl ⟨p, 1, rfl, rfl, _, S2.s0, a, _, 1, 1, rfl, rfl, S2.ha, rfl, ?_⟩
      have S3 := S2.upd (p' := p + 1) (g' := g) (c' := c + 1) (s' := s)
      have g2 := set_get (σ := σ) (i := 2) (v := .int v) (by omega)
      refine ⟨_, g2, 10, 18, rfl, rfl, ⟨by decide, by decide, by decide⟩, _, _, rfl, rfl, _, rfl, ?_⟩
      dsimp only
      split
      · refine ⟨_, g2, _, S3.s0, a, _, 2, 2, rfl, rfl, S3.ha, rfl, ?_⟩
        have S4 := S3.upd (p' := p + 1) (g' := v) (c' := c + 1) (s' := s)
        rw [upd_upd, upd_upd] at S4
        exact draw_rest (by rw [upd_upd, upd_upd]; exact S4) h0 h1 (by omega) (by simp; omega) (by rw [upd_upd, upd_upd]; exact again S4)
      · refine S3.rd (v := .int s) rfl ⟨s, 41, rfl, rfl, small64r (by decide) (by decide), _, g2, _, _, rfl, rfl, _, _, rfl, rfl, .inl ⟨_, rfl, _, _, rfl, rfl, (show (0 : Int) < 2147483629 by decide), _, S3.s0, a, _, 4, 4, rfl, rfl, S3.ha, rfl, ?_⟩⟩
        have S4 := S3.upd (p' := p + 1) (g' := g) (c' := c + 1) (s' := (s * 41 + v + 5417) % 2147483629)
        rw [upd_upd, upd_upd] at S4
        exact draw_rest (by rw [upd_upd, upd_upd]; exact S4) h0 h1 (by omega) (by simp; omega) (by rw [upd_upd, upd_upd]; exact again S4)
    · exact draw_rest S1 h0 h1 hp hl (again S1)
  · exact draw_rest S1 h0 h1 hp hl (again S1)
end
end DL

/-! D24: _law_draw, _law_pool, law keep their promises. -/
namespace DL
open PySem PySem.Spec PyProof.Rows L2 PySem.W
section
variable {P : Program} {w : World} {K : PySem.W.Frag} {mg : Str → Option Value} {base : Heap} {L : Ly K}
theorem fokDraw {x qual : Str} {params : Arguments} {body : List Stmt} {scope : Scope} {f : Addr} {fd : FuncData} {N ps : List Str} {k : Nat} (F : FunD K x qual params body scope [] [] f fd) (S : FnScope N ps scope) (hN : N.length = 5) (hps : ps.length = 2) (hL : L.wok = wokP)
    (hb : ∀ (cdv : Value) (A : Around) (outer : List Env) (s : Shared) (H : Hp) (E : XK), Room k (A.deeper (envOfC qual scope s.heap.objs.size f cdv)) → PSs (cxOf (L2.CX P w) P w K mg base N qual scope f cdv A outer s H E) body (t_draw K)) : FnOk P w K mg base (L2.CX P w) (k + 1) f fd ps (spD L 2 m_draw) := by
  refine F.ok S (fun vs H Q E h => h.1.trans hps.symm) fun cdv A outer s H vs Q E hr h => ⟨_, hb cdv A outer s H E hr, ?_⟩
  obtain ⟨hl, W, ds, wk, r, q⟩ := h
  unfold m_draw at q
  split at q
  case h_2 => exact q.elim
  case h_1 n =>
    split at q
    case isFalse => exact q.elim
    case isTrue h1 =>
      obtain ⟨h0, q⟩ := q
      obtain ⟨v0, w0, rfl, ⟨a, rfl, wa⟩, hr2⟩ := r
      obtain ⟨v1, r1, rfl, h2, h3⟩ := hr2
      obtain rfl : v1 = _ := h2
      obtain rfl : r1 = [] := h3
      have wka := wk a 0 wa
      rw [hL] at wka
      obtain ⟨_, b, xs, o, p, g, c, s', ha, hbb, hp⟩ := wka
      have lN : (L2.start N [.ref a, .int n]).length = 5 := by unfold L2.start; simp [hN]
      refine pure_draw (a := a) (b := b) (n := n) (xs := xs) (o := o) (p := p) (g := g) (c := c) (s := s') ⟨rfl, rfl, ha, hbb⟩ h0 h1 hp lN fun p' g' c' s2 r H' hp' hH h0' h1' => ?_
      have ne : ∀ b' o', H b' = some o' → (∀ xs, o' ≠ .lst xs) → H' b' = some o' := fun b' o' e hn => by
        rw [hH, upd_ne (fun z => by rw [z, ha] at e; cases e; exact hn _ rfl)]; exact e
      refine q r h0' h1' W H' _ ⟨fun b' o' e hw => ?_, fun _ _ e => e, fun _ e => .inl e, fun b' k' e => ?_⟩ rfl
      · rw [hH, upd_ne (fun z => by rw [z, wa] at hw; cases hw)]; exact e
      · rw [hL]
        have old := wk b' k' e
        rw [hL] at old
        obtain ⟨hk, old⟩ := old
        refine ⟨hk, ?_⟩
        by_cases hba : b' = a
        · subst hba
          exact ⟨b, xs, o, p', g', c', s2, by rw [hH, upd_same], ne _ _ hbb (fun _ z => nomatch z), hp'⟩
        · obtain ⟨b2, xs2, o2, p2, g2, c2, s3, e1, e2, e3⟩ := old
          exact ⟨b2, xs2, o2, p2, g2, c2, s3, by rw [hH, upd_ne hba]; exact e1, ne _ _ e2 (fun _ z => nomatch z), e3⟩
/-- _law_pool -/
def spPool (K : PySem.W.Frag) : Sp := fun vs H Q _ => ∃ (a : Addr) (ns : List Int), vs = [.ref a] ∧ SqL K H a (ns.map V.int) ∧ ns.length ≤ 63 ∧ ∀ H' p, PoolAt H' p → Q (.ref p) H'
def tScr (K : PySem.W.Frag) : TE := tSl (rSlL K) (tVar 0) tNoPart (tPart (tC (.int 63)))
abbrev rLstOf (K : PySem.W.Frag) : List V → Hp → VK → Prop := fun xs H Q => ∃ p ys, xs = [V.ref p] ∧ (SqL K H p ys ∨ SqT K H p ys) ∧ ∀ l, H l = none → Q (.ref l) (upd H l (.lst ys))
def t_pool (K : PySem.W.Frag) : TS := tSeq (tAsg (tC (.int 29)) (gName 1)) (tSeq (tFor (iList K (tScr K)) (gName 2) (tAsg (tOp rMod' (tInt' (tOp rAdd' (tOp rAdd' (tOp rMul' (tVar 1) (tC (.int 47))) (tVar 2)) (tC (.int 11)))) (tC (.int 2147483629))) (gName 1)))
  (tRet (tLst (tCons (tFrz (tCB (rLstOf K) (tCons (tScr K) tNil))) (tCons (tC (.int 0)) (tCons (tC (.int 0)) (tCons (tC (.int 0)) (tCons (tVar 1) tNil))))))))
theorem cut_map (ns : List Int) (lo hi : Option Int) : cutV (ns.map V.int) lo hi = (cutL ns lo hi).map V.int := by
  unfold cutV cutL
  rw [List.length_map, List.map_take, List.map_drop]
theorem sql_upd {H : Hp} {a p : Addr} {xs : List V} {o : HO} (h : SqL K H a xs) (hp : H p = none) : SqL K (upd H p o) a xs := by
  rcases h with (h | ⟨o', h⟩) | h
  · exact .inl (.inl (by rw [upd_ne (ne_of_none h hp)]; exact h))
  · exact .inl (.inr ⟨o', by rw [upd_ne (ne_of_none h hp)]; exact h⟩)
  · exact .inr h
theorem scr_of {σ : L2.St} {H : Hp} {a : Addr} {ns : List Int} {Q : VK} (h0 : σ[0]? = some (some (.ref a))) (hS : SqL K H a (ns.map V.int)) (q : ∀ p, H p = none → Q (.ref p) (upd H p (.lst ((cutL ns none (some 63)).map V.int)))) : tScr K σ H Q :=
  ⟨_, h0, 63, rfl, a, _, rfl, hS, fun p hp => by rw [cut_map]; exact q p hp⟩
theorem pure_pool {σ : L2.St} {H : Hp} {a : Addr} {ns : List Int} {D : Ends} (h0 : σ[0]? = some (some (.ref a))) (hl : σ.length = 3) (hS : SqL K H a (ns.map V.int)) (e : ∀ H' p, PoolAt H' p → D.rt (.ref p) H') : t_pool K D σ H := by
  refine scr_of (ns := ns) (by rw [List.getElem?_set_ne (by decide)]; exact h0) hS fun p hp => ⟨p, rfl, ⟨_, .inl (.inl upd_same)⟩, for_list (xs := (cutL ns none (some 63)).map V.int) (fun i σ' H' => σ'[0]? = some (some (.ref a)) ∧ σ'.length = 3 ∧ (∃ s : Int, σ'[1]? = some (some (.int s))) ∧ SqL K H' a (ns.map V.int) ∧ SqL K H' p ((cutL ns none (some 63)).map V.int)) ?_ ?_ ?_ ?_⟩
  · exact ⟨by rw [List.getElem?_set_ne (by decide)]; exact h0, by simp [hl], ⟨29, set_get (by omega)⟩, sql_upd hS hp, .inl (.inl upd_same)⟩
  · exact fun i σ' H' _ h => h.2.2.2.2
  · rintro i x σ' H' hx ⟨g0, gl, ⟨s, g1⟩, gS, gp⟩
    rw [List.getElem?_map] at hx
    obtain ⟨z, hz, rfl⟩ := Option.map_eq_some_iff.mp hx
    refine ⟨_, by rw [List.getElem?_set_ne (by decide)]; exact g1, s, 47, rfl, rfl, small64r (by decide) (by decide), _, set_get (by omega), _, _, rfl, rfl, _, _, rfl, rfl, .inl ⟨_, rfl, _, _, rfl, rfl, (show (0 : Int) < 2147483629 by decide), ?_⟩⟩
    exact ⟨by rw [List.getElem?_set_ne (by decide), List.getElem?_set_ne (by decide)]; exact g0, by simp [gl], ⟨_, set_get (by simp; omega)⟩, gS, gp⟩
  · rintro σ' H' ⟨g0, gl, ⟨s, g1⟩, gS, gp⟩
    refine scr_of g0 gS fun p2 hp2 => ⟨p2, _, rfl, .inl (.inl (.inl upd_same)), fun l hl2 => .inr ⟨l, _, rfl, upd_same, trivial, fun od => ⟨_, g1, ?_⟩⟩⟩
    refine ⟨by show 5 ≤ sizeLine; decide, fun q hq => ?_⟩
    refine e _ q ⟨l, cutL ns none (some 63), od, 0, 0, 0, s, upd_same, ?_, Int.le_refl _⟩
    rw [upd_ne (ne_of_none (o := .frz od (.lst ((cutL ns none (some 63)).map V.int))) (by rw [upd_same]) hq), upd_same]
theorem fokPool {x qual : Str} {params : Arguments} {body : List Stmt} {scope : Scope} {f : Addr} {fd : FuncData} {N ps : List Str} {k : Nat} (F : FunD K x qual params body scope [] [] f fd) (S : FnScope N ps scope) (hN : N.length = 3) (hps : ps.length = 1)
    (hb : ∀ (cdv : Value) (A : Around) (outer : List Env) (s : Shared) (H : Hp) (E : XK), PSs (cxOf (L2.CX P w) P w K mg base N qual scope f cdv A outer s H E) body (t_pool K)) : FnOk P w K mg base (L2.CX P w) (k + 1) f fd ps (spPool K) := by
  refine F.ok S (fun vs H Q E h => ?_) fun cdv A outer s H vs Q E hr h => ⟨_, hb cdv A outer s H E, ?_⟩
  · obtain ⟨_, _, rfl, _⟩ := h
    exact hps.symm
  · obtain ⟨a, ns, rfl, hS, _, q⟩ := h
    exact pure_pool (ns := ns) rfl (by unfold L2.start; simp [hN]) hS q
/-- law -/
def spLaw (K : PySem.W.Frag) : Sp := fun vs H Q _ => ∃ (a : Addr) (ns : List Int), vs = [.ref a] ∧ SqL K H a (ns.map V.int) ∧ ns.length ≤ 63 ∧ ∀ H', Q (.bl true) H'
theorem fokLaw {x qual : Str} {params : Arguments} {st0 : Stmt} {rest : List Stmt} {scope : Scope} {f : Addr} {fd : FuncData} {N ps : List Str} {k n ip : Nat} {m : SM} (F : FunD K x qual params (st0 :: rest) scope [] [] f fd) (S : FnScope N ps scope) (hN : N.length = n) (hps : ps.length = 1) (hip : ip < n) (hL : L.wok = wokP)
    (h0 : ∀ (cdv : Value) (A : Around) (outer : List Env) (s : Shared) (H : Hp) (E : XK), Room k (A.deeper (envOfC qual scope s.heap.objs.size f cdv)) → PS (cxOf (L2.CX P w) P w K mg base N qual scope f cdv A outer s H E) st0 (tAsg (tCall (spPool K) [] (fun _ _ _ => False) (tCons (tVar 0) tNil)) (gName ip)))
    (hb : ∀ (cdv : Value) (A : Around) (outer : List Env) (s : Shared) (H : Hp) (E : XK), Room k (A.deeper (envOfC qual scope s.heap.objs.size f cdv)) → PSs (cxOf (L2.CX P w) P w K mg base N qual scope f cdv A outer s H E) rest (tS (K := K) L (fun c dd _ H => E c dd H) m))
    (ok : LawOk n ip m) : FnOk P w K mg base (L2.CX P w) (k + 1) f fd ps (spLaw K) := by
  refine F.ok S (fun vs H Q E h => ?_) fun cdv A outer s H vs Q E hr h => ⟨_, pss_cons (h0 cdv A outer s H E hr) (hb cdv A outer s H E hr), ?_⟩
  · obtain ⟨_, _, rfl, _⟩ := h
    exact hps.symm
  · obtain ⟨a, ns, rfl, hS, hlen, q⟩ := h
    refine ⟨.ref a, rfl, a, ns, rfl, hS, hlen, fun H' p hp => ?_⟩
    have ln : (L2.start N [.ref a]).length = n := by
      unfold L2.start
      simp
      omega
    refine ⟨fun _ => False, fun b => if b = p then some 0 else none, startL n ip, ⟨fun _ => 0, by unfold startL; simp [ln], fun b k' e => ?_, fun i s' e => ?_, fun i j t d1 t' d2 e => ?_, fun b z => z.elim, fun b z => ?_⟩, M.wp_mono (fun r z => ?_) ok.go⟩
    · split at e
      · rename_i hbp
        cases e
        rw [hL, hbp]
        exact ⟨rfl, hp⟩
      · cases e
    · unfold startL at e
      by_cases hi : ip = i
      · subst hi
        rw [List.getElem?_set_self (by simpa using hip)] at e
        cases e
        exact ⟨.ref p, by rw [List.getElem?_set_self (by rw [ln]; exact hip)], p, rfl, by simp⟩
      · rw [List.getElem?_set_ne hi, List.getElem?_replicate] at e
        split at e
        · cases e; trivial
        · cases e
    all_goals
      have no : ∀ (i : Nat) t d1, (startL n ip)[i]? ≠ some (Slot.own t d1) := fun i t d1 e => by
        unfold startL at e
        by_cases hi : ip = i
        · subst hi
          rw [List.getElem?_set_self (by simpa using hip)] at e
          cases e
        · rw [List.getElem?_set_ne hi, List.getElem?_replicate] at e
          split at e <;> cases e
    · exact absurd e (no _ _ _)
    · obtain ⟨i, t, d1, e, _⟩ := z
      exact absurd e (no _ _ _)
    · unfold isTrueR at z
      split at z
      · exact fun W' H2 v _ _ _ rv => by
          rw [show v = _ from rv]
          exact q H2
      · cases z
end
end DL
namespace DL
open PySem PySem.Spec PyProof.Rows L2 PySem.W
theorem passF {X : Cx} : Passes (L2.CX X.prog X.w) X (fun _ _ _ => False) := fun pins σ H s e s' I c => by
  obtain ⟨_, _, _, _, _, _, _, _, _, _, _, _, z⟩ := c
  exact z.elim
end DL

/-! D25: a law's mirror by computing. -/
namespace DL
open PySem PySem.Spec PyProof.Rows L2 PySem.W
theorem allB_mem {p : Nat → Bool} : ∀ {n : Nat}, allB' n p = true → ∀ i, i < n → p i = true
  | n + 1, h, i, hi => by
    have h : (p n && allB' n p) = true := h
    rw [Bool.and_eq_true] at h
    by_cases e : i = n
    · rw [e]; exact h.1
    · exact allB_mem h.2 i (by omega)
theorem chk_wp {α : Type} {p : α → Bool} : ∀ {m : M α}, chk p m = true → m.wp fun a => p a = true
  | .ret a, h => h
  | .stuck, h => by cases h
  | .draw n k, h => by
    cases n with
    | negSucc m => cases h
    | ofNat m =>
      have h : (!(Nat.beq m 0) && allB' m fun i => chk p (k (Int.ofNat i))) = true := h
      rw [Bool.and_eq_true] at h
      refine ⟨?_, fun r h0 h1 => ?_⟩
      · have : m ≠ 0 := fun e => by subst e; simp at h
        show (0 : Int) < Int.ofNat m
        have := Nat.pos_of_ne_zero this
        exact Int.ofNat_lt.mpr this
      · obtain ⟨i, rfl⟩ := Int.eq_ofNat_of_zero_le h0
        exact chk_wp (allB_mem h.2 i (Int.ofNat_lt.mp h1))
theorem lawOk_of {n ip : Nat} {m : SM} (h : chk isTrueR (m (startL n ip)) = true) : LawOk n ip m := ⟨chk_wp h⟩
end DL
namespace DL
open PySem PySem.Spec PyProof.Rows L2 PySem.W
end DL
namespace DL
theorem seq_wp {m n : SM} {ρ : Rho} {P : SR → Prop} (h : (m ρ).wp fun r => match r with
    | .nx ρ' => (n ρ').wp P
    | r => P r) : (sSeq m n ρ).wp P := by
  refine M.wp_bind.mpr (M.wp_mono (fun r q => ?_) h)
  cases r <;> exact q
theorem seq_nx {m n : SM} {ρ ρ' : Rho} {P : SR → Prop} (e : m ρ = .ret (.nx ρ')) (h : (n ρ').wp P) : (sSeq m n ρ).wp P := seq_wp (by rw [e]; exact h)
theorem seq_dr {m n : SM} {ρ : Rho} {P : SR → Prop} (k : Nat) (h0 : isDraw (m ρ) k = true) (hk : 0 < k) (h : ∀ i, i < k → ∃ ρ', follow (m ρ) [i] = .ret (.nx ρ') ∧ (n ρ').wp P) : (sSeq m n ρ).wp P := by
  refine seq_wp ?_
  cases e : m ρ with
  | ret a => rw [e] at h0; cases h0
  | stuck => rw [e] at h0; cases h0
  | draw z f =>
    rw [e] at h0 h
    cases z with
    | negSucc q => cases h0
    | ofNat q =>
      have hq : q = k := Nat.eq_of_beq_eq_true h0
      subst hq
      refine ⟨Int.ofNat_lt.mpr hk, fun r h1 h2 => ?_⟩
      obtain ⟨i, rfl⟩ := Int.eq_ofNat_of_zero_le h1
      obtain ⟨ρ', e1, e2⟩ := h i (Int.ofNat_lt.mp h2)
      have e1 : f (Int.ofNat i) = .ret (.nx ρ') := by simpa [follow] using e1
      show (f (Int.ofNat i)).wp _
      rw [e1]
      exact e2
theorem lt3 {P : Nat → Prop} (h0 : P 0) (h1 : P 1) (h2 : P 2) : ∀ i, i < 3 → P i
  | 0, _ => h0
  | 1, _ => h1
  | 2, _ => h2
  | n + 3, h => by omega
end DL
namespace DL
/-- a law's rest answers True -/
structure Wt (m : SM) (ρ : Rho) : Prop where
  go : (m ρ).wp fun r => isTrueR r = true
theorem wt_nx {m n : SM} {ρ ρ' : Rho} (e : m ρ = .ret (.nx ρ')) (h : Wt n ρ') : Wt (sSeq m n) ρ := ⟨seq_nx e h.go⟩
theorem wt_rt {m : SM} {ρ : Rho} (e : m ρ = .ret (.rt (.bl true))) : Wt m ρ := ⟨by rw [e]; exact rfl⟩
theorem wt_dr {m n : SM} {ρ : Rho} (k : Nat) (h0 : isDraw (m ρ) k = true) (hk : 0 < k) (h : ∀ i, i < k → ∃ ρ', follow (m ρ) [i] = .ret (.nx ρ') ∧ Wt n ρ') : Wt (sSeq m n) ρ := ⟨seq_dr k h0 hk fun i hi => by
  obtain ⟨ρ', e, w⟩ := h i hi
  exact ⟨ρ', e, w.go⟩⟩
end DL

/-! D26: the head's own facts, as truth values. -/
namespace DL
open PySem PySem.Spec PyProof.Rows L2 PySem.W
def oexB (K : PySem.W.Frag) (C : Addr) : Bool := match K.lookup C with
  | some ⟨.type "type", _, .cls cd, sl⟩ => (match cd.mro, sl.toList with
    | .ref C' :: bm, [_, _, _, _, some (.builtin n), _] => decide (C' = C) && (decide (n = "ValueError.__new__") && (!cd.hasDel && (cd.hasDict && PySem.HandSPX.refsVE bm)))
    | _, _ => false)
  | _ => false
theorem oexB_ok {K : PySem.W.Frag} {C : Addr} (q : oexB K C = true) : ∃ nm q N bs bm sn sub ab col dd k0 k1 k2 k3 k5, K.lookup C = some (excClassObj nm q C N bs bm true sn sub ab col dd k0 k1 k2 k3 k5 "ValueError.__new__") ∧ PySem.HandSPX.refsVE bm = true := by
  unfold oexB at q
  split at q
  case h_2 => cases q
  case h_1 x dd cd sl ho =>
    split at q
    case h_2 => cases q
    case h_1 y1 y2 C' bm k0 k1 k2 k3 n k5 hm hs =>
      obtain ⟨q1, q⟩ := Bool.and_eq_true_iff.mp q
      obtain ⟨q2, q⟩ := Bool.and_eq_true_iff.mp q
      obtain ⟨q3, q⟩ := Bool.and_eq_true_iff.mp q
      obtain ⟨q4, q5⟩ := Bool.and_eq_true_iff.mp q
      have q1 := of_decide_eq_true q1
      have q2 := of_decide_eq_true q2
      obtain ⟨nm, bs, mro, ns, qn, hd, sn, sub, ab, col, del⟩ := cd
      dsimp only at hm q3 q4
      subst q1 q2 hm q4
      have q3 : del = false := by simpa using q3
      subst q3
      have hsl : sl = #[k0, k1, k2, k3, some (.builtin "ValueError.__new__"), k5] := by
        obtain ⟨l⟩ := sl
        exact congrArg Array.mk hs
      subst hsl
      exact ⟨nm, qn, ns, bs, bm, sn, sub, ab, col, dd, k0, k1, k2, k3, k5, ho, q5⟩
def oexAll (K : PySem.W.Frag) (C : Addr) : Bool := oexB K C && (decide (PySem.W.findIn K (.ref C) "__setattr__" = some (some (.builtin "object.__setattr__"))) && (decide (PySem.W.subIn K (.ref C) (.type "BaseException") = some true) && (decide (PySem.W.typeIn K (.ref C) = some (.type "type")) && (PySem.W.keepIn K (.ref C) && xfB K C))))
theorem oexAll_ok {K : PySem.W.Frag} {C : Addr} (q : oexAll K C = true) : OexC K C ∧ XfC K C := by
  obtain ⟨q1, q⟩ := Bool.and_eq_true_iff.mp q
  obtain ⟨q2, q⟩ := Bool.and_eq_true_iff.mp q
  obtain ⟨q3, q⟩ := Bool.and_eq_true_iff.mp q
  obtain ⟨q4, q⟩ := Bool.and_eq_true_iff.mp q
  obtain ⟨q5, q6⟩ := Bool.and_eq_true_iff.mp q
  exact ⟨⟨oexB_ok q1, of_decide_eq_true q2, of_decide_eq_true q3, of_decide_eq_true q4, q5⟩, xfB_ok q6⟩
def T7 : List String := ["NoneType", "bool", "int", "str", "list", "tuple", "dict"]
def obAll (K : PySem.W.Frag) (C : Addr) : Bool := decide (PySem.W.findIn K (.ref C) "__class__" = some (some (.builtin "object.__class__"))) && (decide (PySem.W.specialIn K (.builtin "object.__class__") "__get__" = some (some (.builtin "getset_descriptor.__get__"))) &&
  (decide (PySem.W.takesIn K (.builtin "object.__class__") = some true) && (decide (PySem.W.mroIn K C (.type "object") = some true) && T7.all fun T => decide (PySem.W.kitOne K (.type T) (.ref C) = some false))))
theorem obAll_ok {K : PySem.W.Frag} {C : Addr} (cl : Cls K C) (q : obAll K C = true) : ObC K C ∧ ∀ T ∈ ["NoneType", "bool", "int", "str", "list", "tuple", "dict"], PySem.W.kitOne K (.type T) (.ref C) = some false := by
  obtain ⟨q1, q⟩ := Bool.and_eq_true_iff.mp q
  obtain ⟨q2, q⟩ := Bool.and_eq_true_iff.mp q
  obtain ⟨q3, q⟩ := Bool.and_eq_true_iff.mp q
  obtain ⟨q4, q5⟩ := Bool.and_eq_true_iff.mp q
  exact ⟨⟨cl, of_decide_eq_true q1, of_decide_eq_true q2, of_decide_eq_true q3, of_decide_eq_true q4⟩, fun T h => of_decide_eq_true (List.all_eq_true.mp q5 T h)⟩
def exB (excs objs : List Str) (K : PySem.W.Frag) : Bool := (excs.all fun x => oexAll K (He.ga K x)) && objs.all fun x => obAll K (He.ga K x)
theorem exB_exc {excs objs : List Str} {K : PySem.W.Frag} (q : exB excs objs K = true) {x : Str} (h : x ∈ excs) : OexC K (He.ga K x) ∧ XfC K (He.ga K x) := oexAll_ok (List.all_eq_true.mp (Bool.and_eq_true_iff.mp q).1 x h)
theorem exB_obj {excs objs : List Str} {K : PySem.W.Frag} (q : exB excs objs K = true) {x : Str} (h : x ∈ objs) : obAll K (He.ga K x) = true := List.all_eq_true.mp (Bool.and_eq_true_iff.mp q).2 x h
theorem typ_fn {K : PySem.W.Frag} {C : Addr} {m : Str} {f : Addr} (h : Meth K C m f) : PySem.W.typeIn K (.ref f) = some (.type "function") := beq_iff_eq.mp h.fn
end DL
namespace DL
open PySem PySem.Spec PyProof.Rows L2 PySem.W
theorem toCX0 {P : Program} {w : World} {K : PySem.W.Frag} {mg : Str → Option Value} {base : Heap} {k : Nat} {f : Addr} {fd : FuncData} {ps : List Str} (F : FnOk P w K mg base (L2.CX P w) k f fd ps (spLaw K)) : FnOk P w K mg base L2.CX0 k f fd ps (spLaw K) :=
  ⟨fun vs H Q E h => F.len vs H Q E h, fun A outer s H args us vs Q E hr he hb hv h => codeAny_mono (F.run A outer s H args us vs Q (fun _ _ _ => False) hr he hb hv h) fun r s' q => by
    cases r with
    | error e =>
      obtain ⟨_, _, _, _, _, _, _, _, _, _, _, _, z⟩ := q
      exact z.elim
    | ok f => cases f <;> exact q⟩
end DL

/-! D27: a list made n times over, join. -/
namespace DL
open PySem PySem.Spec PyProof.Rows L2 PySem.W
section
variable {X : Cx} {L : Ly X.K} {Wx : WX} {B : Addr → Prop} {W W1 W' : WM} {H H1 H' : Hp} {σ : L2.St} {ρ ρ' : Rho} {pos : Pos}
theorem d_strL {x y : Str} {j pos} (h : x = y) : PE X (.Constant (.str x) j pos) (tE L Wx (eC (.str y))) := h ▸ d_str
theorem q_strL {x y : Str} {j pos} (h : x = y) : PE X (.Constant (.str x) j pos) (tQ L (qC (.str y))) := h ▸ q_str
theorem d_fldL {e : Expr} {f f' : Str} {ok : Nat → Bool} {m : EM D} (h : f = f') (hok : ∀ c, ok c = true → Cls X.K (L.CA c) ∧ NoAttr X.K (L.CA c) f') (he : PE X e (tP L Wx m)) (hb : attributeBase e f X.env (eval e X.env) = eval e X.env := by rfl) : PE X (.Attribute e f pos) (tE L Wx (eFld ok f' m)) := by
  subst h; exact d_fld hok he hb
theorem s_fldL {i c : Nat} {f f' : Str} {o e : Expr} {mv : EM D} {pos' : Pos} (h : f = f') (cl : Cls X.K (L.CA c)) (na : NoAttr X.K (L.CA c) f') (ho : PE X o (tVar i)) (hv : PE X e (tE L Wx mv)) (hs : swapsWith e (some (.Attribute o f pos')) pos.line X.env = pure false := by rfl) :
    PS X (.Assign [.Attribute o f pos'] e pos) (tS L Wx (sFldD c i f' mv)) := by
  subst h; exact s_fld cl na ho hv hs
theorem repl_flat {vs : List V} {ds : List D} (h : RepL L W H ds vs) : ∀ n : Nat, RepL L W H (List.replicate n ds).flatten (List.replicate n vs).flatten
  | 0 => by simp; exact rfl
  | n + 1 => by
    rw [List.replicate_succ, List.replicate_succ, List.flatten_cons, List.flatten_cons]
    exact h.append (repl_flat h n)
theorem f_rep {a b : Expr} {ma : EM (Tag × List D)} {q : Rho → Option D} (ha : PE X a (tF L Wx ma)) (hb : PE X b (tQ L q)) : PE X (.BinOp a .Mult b pos) (tF L Wx (eRep ma q)) :=
  PE.weak (pe_op op_rep ha hb) fun σ H Q z => by
    obtain ⟨B, W, ρ, R, z⟩ := z
    refine ⟨B, W, ρ, R, M.wp_mono (fun r p => p.imp fun p ρ1 W1 H1 S1 R1 z l vs nB R2 ho hr => ?_) (wp_seqE z)⟩
    cases e : q ρ1 with
    | none => rw [e] at z; exact z.elim
    | some d =>
      rw [e] at z
      simp only [Option.bind_some] at z
      cases e2 : repO p d with
      | none => rw [e2] at z; exact z.elim
      | some res =>
        rw [e2] at z
        unfold repO at e2
        split at e2
        case h_2 => cases e2
        case h_1 k =>
          obtain ⟨t, ds⟩ := p
          cases t <;> simp only at e2
          case lst =>
            split at e2
            case isFalse => cases e2
            case isTrue hk =>
              cases e2
              obtain ⟨h1, h2, h3⟩ := hk
              refine ⟨_, W1, ρ1, _, R2, e, fun v hv => ?_⟩
              obtain rfl := hv.int
              refine ⟨l, k, vs, rfl, rfl, ho, h1, h2, by rw [hr.length]; exact h3, fun p hp => ?_⟩
              obtain ⟨R3, S3, nB3⟩ := R1.newB (o := .lst (List.replicate k.toNat vs).flatten) hp
              exact z W1 _ S3 (R3.lessB fun b h => .inl h) p _ nB3 R3 upd_same (repl_flat (hr.tr S3.tr) _)
          all_goals cases e2
theorem f_cat {a b : Expr} {ma mb : EM D} (ha : PE X a (tE L Wx ma)) (hb : PE X b (tP L Wx mb)) : PE X (.BinOp a .Add b pos) (tF L Wx (eCat ma mb)) :=
  PE.weak (pe_op op_catR ha hb) fun σ H Q q => by
    obtain ⟨B, W, ρ, R, q⟩ := q
    refine ⟨B, W, ρ, R, M.wp_mono (fun r p => p.imp fun x ρ1 W1 H1 S1 R1 z v hv => ?_) (wp_seqE q)⟩
    refine ⟨B, W1, ρ1, R1, M.wp_mono (fun r p => p.imp fun y ρ2 W2 H2 S2 R2 z2 u hu => ?_) (wp_seqE z)⟩
    cases e : catO x y with
    | none => rw [e] at z2; exact z2.elim
    | some res =>
      rw [e] at z2
      unfold catO at e
      split at e
      case h_2 => cases e
      case h_1 xs ys =>
        split at e
        case isFalse => cases e
        case isTrue hl =>
          cases e
          obtain ⟨a, vs, rfl, ha, ra⟩ := (show RepP L W2 H2 (.node .lst xs) v from .inl (hv.tr S2.tr)).lst
          obtain ⟨b, us, rfl, hb, rb⟩ := hu.lst
          refine ⟨a, b, vs, us, rfl, rfl, ha, hb, by rw [sz_eq, ra.length, rb.length]; exact hl, fun p hp => ?_⟩
          obtain ⟨R3, S3, nB⟩ := R2.newB (o := .lst (vs ++ us)) hp
          exact z2 W2 _ S3 (R3.lessB fun b h => .inl h) p _ nB R3 upd_same ((ra.append rb).tr S3.tr)
theorem strsD_rep : ∀ {ds : List D} {ys : List Str} {vs : List V}, strsD ds = some ys → RepL L W H ds vs → vs = ys.map V.str
  | [], ys, vs, e, h => by
    cases e
    exact h
  | d :: ds, ys, vs, e, ⟨v, r, e1, h1, h2⟩ => by
    unfold strsD at e
    split at e
    case h_1 => simp_all
    case h_2 s ds' heq =>
      cases heq
      obtain ⟨zs, q, rfl⟩ := Option.map_eq_some_iff.mp e
      rw [e1, strsD_rep q h2, show v = V.str s from h1]
      rfl
    case h_3 => cases e
theorem d_join {o e : Expr} {apos cpos : Pos} {mo m : EM D} (ho : PE X o (tE L Wx mo)) (he : PE X e (tE L Wx m))
    (hs : starEach [e] X.env = [(false, eval e X.env)] := by rfl) (hbase : attributeBase o "join" X.env (eval o X.env) = eval o X.env := by rfl) (hline : (apos.endLine == cpos.line) = true := by rfl) :
    PE X (.Call (.Attribute o "join" apos) [e] [] cpos) (tE L Wx (eJoin mo m)) :=
  PE.weak (pe_join ho he hs hbase hline) fun σ H Q q => by
    obtain ⟨B, W, ρ, R, q⟩ := q
    refine ⟨B, W, ρ, R, M.wp_mono (fun r p => p.imp fun x ρ1 W1 H1 S1 R1 z v hv => ?_) (wp_seqE q)⟩
    unfold goJ at z
    split at z
    case h_2 => exact z.elim
    case h_1 a =>
      obtain rfl : v = V.str a := hv
      refine ⟨⟨a, rfl⟩, B, W1, ρ1, R1, M.wp_mono (fun r p => p.imp fun y ρ2 W2 H2 S2 R2 z2 u hu => ?_) (wp_seqE z)⟩
      cases e2 : joinO a y with
      | none => rw [e2] at z2; exact z2.elim
      | some res =>
        rw [e2] at z2
        have fin : ∀ ds p (vs : List V), joinL a ds = some res → RepL L W2 H2 ds vs → (SqL X.K H2 p vs ∨ SqT X.K H2 p vs) → ∃ a' p', ∃ ys : List Str, V.str a = .str a' ∧ [V.ref p] = [.ref p'] ∧ (SqL X.K H2 p' (ys.map V.str) ∨ SqT X.K H2 p' (ys.map V.str)) ∧ (ys.map (·.length)).sum + ys.length * a'.length ≤ 16777216 ∧ Q (.str (Txt.join a' ys)) H2 := by
          intro ds p vs e3 hr hq
          unfold joinL at e3
          obtain ⟨ys, e4, e5⟩ := Option.bind_eq_some_iff.mp e3
          split at e5
          case isFalse => cases e5
          case isTrue hl =>
            cases e5
            rw [strsD_rep e4 hr] at hq
            exact ⟨a, p, ys, rfl, rfl, hq, hl, wp_retE R2 z2 _ rfl⟩
        unfold joinO at e2
        split at e2
        case h_1 ds =>
          obtain ⟨p, vs, rfl, ⟨od, hat⟩, ra⟩ := hu
          exact fin ds p vs e2 ra (.inl (.inl (.inr ⟨od, hat⟩)))
        case h_2 ds =>
          obtain ⟨p, vs, rfl, hat, ra⟩ := hu
          exact fin ds p vs e2 ra (.inr hat)
        case h_3 => cases e2
end
theorem d_xfL {X : Cx} {L : Ly X.K} {Wx : WX} {a : Addr} {oe : Obj} {cls : Value} {d : Option Addr} {pn : List (Addr × Obj)} {e : Expr} {pos : Pos} {f f' : Str} {i : Nat} {ok : Nat → Bool} (h : f = f') (hok : ∀ c, ok c = true → XfC X.K (L.CA c) ∧ PySem.W.findIn X.K (.ref (L.CA c)) f' = some none)
    (hz : Zc cls d oe) (hf : ∃ vs, oe.data = .fields vs) (he : PE (X.suite a ((a, oe) :: pn)) e (tVar i)) (hb : attributeBase e f X.env (eval e X.env) = eval e X.env := by rfl) :
    PE (X.suite a ((a, oe) :: pn)) (.Attribute e f pos) (tE (K := X.K) (excL L a cls d) Wx (eXf ok i f')) := by
  subst h; exact d_xf hok hz hf he hb
end DL

namespace DL
open PySem PySem.Spec PyProof.Rows L2 PySem.W
def z_abcdefghijklmnopqrstuvwxyz : PySem.Str := ⟨#[97, 98, 99, 100, 101, 102, 103, 104, 105, 106, 107, 108, 109, 110, 111, 112, 113, 114, 115, 116, 117, 118, 119, 120, 121, 122]⟩
theorem qz_abcdefghijklmnopqrstuvwxyz : (PySem.Str.ofString "abcdefghijklmnopqrstuvwxyz") = z_abcdefghijklmnopqrstuvwxyz := by kernel_rfl
def zh_ : PySem.Str := ⟨#[]⟩
theorem qzh_ : (PySem.Str.ofString "") = zh_ := by kernel_rfl
def z_methods : PySem.Str := ⟨#[109, 101, 116, 104, 111, 100, 115]⟩
theorem qz_methods : (PySem.Str.ofString "methods") = z_methods := by kernel_rfl
def z_other : PySem.Str := ⟨#[111, 116, 104, 101, 114]⟩
theorem qz_other : (PySem.Str.ofString "other") = z_other := by kernel_rfl
def z_0 : PySem.Str := ⟨#[48]⟩
theorem qz_0 : (PySem.Str.ofString "0") = z_0 := by kernel_rfl
def isi_Kind : Nat → Option Bool := fun k => if k < 7 then some false else if k = 40 then some true else none
def okf_states : Nat → Bool := fun c => c == 33
def okf_start : Nat → Bool := fun c => c == 33
def okf__methods : Nat → Bool := fun c => c == 33
def okx_part : Nat → Bool := fun c => c == 3
def okx_method : Nat → Bool := fun c => c == 4
def okx_state : Nat → Bool := fun c => c == 5
def okx_argument : Nat → Bool := fun c => c == 6
def okx_index : Nat → Bool := fun c => c == 9
def ans_BadCalls : Nat → Option Bool := fun k => if k = 3 then some false else if k = 4 then some false else if k = 5 then some false else if k = 6 then some false else if k = 9 then some true else none
def ans_TowerError : Nat → Option Bool := fun k => if k = 3 then some true else if k = 4 then some true else if k = 5 then some true else if k = 6 then some true else if k = 9 then some true else none
def m_law_draw : FM := m_draw
def p_law_names_1 : EM D := (eBin ixO (eV 2) (eCall m_law_draw 2 0 (fun ds _ => ds) (eCl1 (eCons (eV 0) (eCons (eC (.int 26)) eNil)))))
def p_law_names_2 : EM Bool := (eTst (eBinQ notInO (eQ (qV 8)) (qV 3)))
def p_law_names_3 : EM D := (eV 8)
def p_law_names_4 : SM := (sSeq (sSet 5 (eBin ixO (eFz (eLst (eCons (eC (.int 1)) (eCons (eC (.int 2)) (eCons (eC (.int 3)) (eCons (eC (.int 8)) eNil)))))) (eCall m_law_draw 2 0 (fun ds _ => ds) (eCl1 (eCons (eV 0) (eCons (eC (.int 4)) eNil))))))
  (sSeq (sSet 6 (eJoin (eC (.str zh_)) (eFz (eLc (eRng1 (eCons (eV 5) eNil)) [7] (gSet 7) eYes p_law_names_1))))
  (sSeq (sIf (eTst (eBinQ inO (eQ (qV 6)) (qV 3))) (sSet 6 (eBinQ ixO (eFz (eLc (eIt (eV 2)) [8] (gSet 8) p_law_names_2 p_law_names_3)) (qC (.int 0)))) sPass)
  (sDrop (eMt 3 fAppend (eCons (eV 6) eNil))))))
def m_law_names : FM := runD 9 (sSeq (sSet 2 (eC (.str z_abcdefghijklmnopqrstuvwxyz)))
  (sSeq (sNew 3 (eLst eNil))
  (sSeq (sFor (eRng1 (eCons (eV 1) eNil)) (gSet 4) p_law_names_4)
  (sRet (eV 3)))))
def p_law_answers_1 : SM := (sSeq (sSet 7 (eTup (eCons (eCall m_law_draw 2 0 (fun ds _ => ds) (eCl1 (eCons (eV 0) (eCons (eV 2) eNil)))) (eCons (eCall m_law_draw 2 0 (fun ds _ => ds) (eCl1 (eCons (eV 0) (eCons (eV 1) eNil)))) eNil))))
  (sIf (eTst (eBinQ notInO (eQ (qV 7)) (qV 5))) (sDrop (eMt 5 fAppend (eCons (eV 7) eNil))) sPass))
def m_law_answers : FM := runD 8 (sSeq (sSet 4 (eBin ixO (eFz (eLst (eCons (eC (.int 1)) (eCons (eC (.int 1)) (eCons (eC (.int 1)) (eCons (eC (.int 1)) (eCons (eC (.int 2)) (eCons (eC (.int 3)) (eCons (eC (.int 8)) (eCons (eC (.int 0)) eNil)))))))))) (eCall m_law_draw 2 0 (fun ds _ => ds) (eCl1 (eCons (eV 0) (eCons (eC (.int 8)) eNil))))))
  (sSeq (sNew 5 (eLst eNil))
  (sSeq (sFor (eRng1 (eCons (eBin max2O (eV 4) (e1 int1O (eQ (qV 3)))) eNil)) (gSet 6) p_law_answers_1)
  (sRet (eFz (f1 sortO (eQ (qV 5))))))))
def p_law_method_1 : EM D := (eCall m_law_answers 4 0 (fun ds _ => ds) (eCl1 (eCons (eV 0) (eCons (eV 1) (eCons (eV 4) (eCons (eV 2) eNil))))))
def p_law_method_2 : SM := (sDrop (eMt 5 fAppend (eCons (eFz (eLc (eRng1 (eCons (eV 3) eNil)) [7] (gSet 7) eYes p_law_method_1)) eNil)))
def m_law_method : FM := runD 8 (sSeq (sSet 3 (eBin ixO (eFz (eLst (eCons (eC (.int 1)) (eCons (eC (.int 1)) (eCons (eC (.int 2)) (eCons (eC (.int 3)) (eCons (eC (.int 4)) eNil))))))) (eCall m_law_draw 2 0 (fun ds _ => ds) (eCl1 (eCons (eV 0) (eCons (eC (.int 5)) eNil))))))
  (sSeq (sSet 4 (eBin ixO (eFz (eLst (eCons (eC (.int 1)) (eCons (eC (.int 2)) (eCons (eC (.int 2)) (eCons (eC (.int 3)) (eCons (eC (.int 4)) eNil))))))) (eCall m_law_draw 2 0 (fun ds _ => ds) (eCl1 (eCons (eV 0) (eCons (eC (.int 5)) eNil))))))
  (sSeq (sNew 5 (eLst eNil))
  (sSeq (sFor (eRng1 (eCons (eV 1) eNil)) (gSet 6) p_law_method_2)
  (sRet (eTup (eCons (eV 3) (eCons (eV 4) (eCons (eV 5) eNil)))))))))
def p_law_model_1 : SM := (sPut 4 (eV 5) (eCall m_law_method 3 0 (fun ds _ => ds) (eCl1 (eCons (eV 0) (eCons (eV 3) (eCons (eV 1) eNil))))))
def m_law_model : FM := runD 6 (sSeq (sSet 3 (eBin ixO (eFz (eLst (eCons (eC (.int 1)) (eCons (eC (.int 2)) (eCons (eC (.int 2)) (eCons (eC (.int 3)) (eCons (eC (.int 4)) (eCons (eC (.int 8)) eNil)))))))) (eCall m_law_draw 2 0 (fun ds _ => ds) (eCl1 (eCons (eV 0) (eCons (eC (.int 6)) eNil))))))
  (sSeq (sNew 4 eDctK)
  (sSeq (sFor (eIt (eCall m_law_names 2 0 (fun ds _ => ds) (eCl1 (eCons (eV 0) (eCons (eBin addO (eC (.int 1)) (eCall m_law_draw 2 0 (fun ds _ => ds) (eCl1 (eCons (eV 0) (eCons (eV 2) eNil))))) eNil))))) (gSet 5) p_law_model_1)
  (sRet (eFz (eLst (eCons (eV 3) (eCons (eCall m_law_draw 2 0 (fun ds _ => ds) (eCl1 (eCons (eV 0) (eCons (eV 3) eNil)))) (eCons (eV 4) eNil)))))))))
def m_is_integer : FM := runD 1 (sRet (eAnd (eIsi isi_int (eQ (qV 0))) (eNot (eIsi isi_bool (eQ (qV 0))))))
def m_is_between : FM := runD 3 (sRet (eAnd (eCall m_is_integer 1 0 (fun ds _ => ds) (eCl1 (eCons (eV 0) eNil))) (eChain leO leO (eV 1) (eV 0) (eQ (qV 2)))))
def p_is_name_1 : EM D := (eBinQ inO (eQ (qV 1)) (qC (.str z_abcdefghijklmnopqrstuvwxyz)))
def m_is_name : FM := runD 2 (sSeq (sIf (eOrB (eNotB (eTst (eIsi isi_str (eQ (qV 0))))) (eNotB (eTst (eChain leO leO (eC (.int 1)) (e1 lenO (eQ (qV 0))) (eQ (qC (.int 8))))))) (sRet (eC (.bl false))) sPass)
  (sRet (e1 allB (eFz (eLc (eIt (eV 0)) [1] (gSet 1) eYes p_is_name_1)))))
def m_is_row : FM := runD 1 (sRet (eIsi isi_list_tuple (eQ (qV 0))))
def m_is_row_of : FM := runD 3 (sRet (eAnd (eCall m_is_row 1 0 (fun ds _ => ds) (eCl1 (eCons (eV 0) eNil))) (eChain leO leO (eV 1) (e1 lenO (eQ (qV 0))) (eQ (qV 2)))))
def p_are_answers_1 : SM := (sSeq (sIf (eNotB (eTst (eCall m_is_row_of 3 0 (fun ds _ => ds) (eCl1 (eCons (eV 4) (eCons (eC (.int 2)) (eCons (eC (.int 2)) eNil))))))) (sRet (eC (.bl false))) sPass)
  (sSeq (sIf (eOrB (eNotB (eTst (eCall m_is_between 3 0 (fun ds _ => ds) (eCl1 (eCons (eBinQ ixO (eQ (qV 4)) (qC (.int 0))) (eCons (eC (.int 0)) (eCons (eBinQ subO (eQ (qV 1)) (qC (.int 1))) eNil))))))) (eNotB (eTst (eCall m_is_between 3 0 (fun ds _ => ds) (eCl1 (eCons (eBinQ ixO (eQ (qV 4)) (qC (.int 1))) (eCons (eC (.int 0)) (eCons (eBinQ subO (eQ (qV 2)) (qC (.int 1))) eNil)))))))) (sRet (eC (.bl false))) sPass)
  (sSeq (sIf (eTst (eBin inO (e1 tupleO (eQ (qV 4))) (eQ (qV 3)))) (sRet (eC (.bl false))) sPass)
  (sDrop (eMt 3 fAppend (eCons (e1 tupleO (eQ (qV 4))) eNil))))))
def m_are_answers : FM := runD 5 (sSeq (sIf (eNotB (eTst (eCall m_is_row_of 3 0 (fun ds _ => ds) (eCl1 (eCons (eV 0) (eCons (eC (.int 0)) (eCons (eC (.int 8)) eNil))))))) (sRet (eC (.bl false))) sPass)
  (sSeq (sNew 3 (eLst eNil))
  (sSeq (sFor (eIt (eV 0)) (gSet 4) p_are_answers_1)
  (sRet (eC (.bl true))))))
def p_is_method_1 : EM D := (eCall m_are_answers 3 0 (fun ds _ => ds) (eCl1 (eCons (eV 6) (eCons (eV 3) (eCons (eV 1) eNil)))))
def p_is_method_2 : SM := (sSeq (sIf (eNotB (eTst (eCall m_is_row_of 3 0 (fun ds _ => ds) (eCl1 (eCons (eV 5) (eCons (eV 2) (eCons (eV 2) eNil))))))) (sRet (eC (.bl false))) sPass)
  (sIf (eNotB (eTst (e1 allB (eFz (eLc (eIt (eV 5)) [6] (gSet 6) eYes p_is_method_1))))) (sRet (eC (.bl false))) sPass))
def m_is_method : FM := runD 7 (sSeq (sIf (eNotB (eTst (eCall m_is_row_of 3 0 (fun ds _ => ds) (eCl1 (eCons (eV 0) (eCons (eC (.int 3)) (eCons (eC (.int 3)) eNil))))))) (sRet (eC (.bl false))) sPass)
  (sSeq (sAsg (eV 0) (gTupD 3 (gsCons (gSet 2) (gsCons (gSet 3) (gsCons (gSet 4) gsNil)))))
  (sSeq (sIf (eOrB (eNotB (eTst (eCall m_is_between 3 0 (fun ds _ => ds) (eCl1 (eCons (eV 2) (eCons (eC (.int 1)) (eCons (eC (.int 4)) eNil))))))) (eNotB (eTst (eCall m_is_between 3 0 (fun ds _ => ds) (eCl1 (eCons (eV 3) (eCons (eC (.int 1)) (eCons (eC (.int 4)) eNil)))))))) (sRet (eC (.bl false))) sPass)
  (sSeq (sIf (eNotB (eTst (eCall m_is_row_of 3 0 (fun ds _ => ds) (eCl1 (eCons (eV 4) (eCons (eV 1) (eCons (eV 1) eNil))))))) (sRet (eC (.bl false))) sPass)
  (sSeq (sFor (eIt (eV 4)) (gSet 5) p_is_method_2)
  (sRet (eC (.bl true))))))))
def p_are_methods_1 : EM D := (eAnd (eCall m_is_name 1 0 (fun ds _ => ds) (eCl1 (eCons (eV 2) eNil))) (eCall m_is_method 2 0 (fun ds _ => ds) (eCl1 (eCons (eBinQ ixO (eQ (qV 0)) (qV 2)) (eCons (eV 1) eNil)))))
def m_are_methods : FM := runD 3 (sSeq (sIf (eOrB (eNotB (eTst (eIsi isi_dict (eQ (qV 0))))) (eNotB (eTst (eChain leO leO (eC (.int 1)) (e1 lenO (eQ (qV 0))) (eQ (qC (.int 4))))))) (sRet (eC (.bl false))) sPass)
  (sRet (e1 allB (eFz (eLc (eIt (eV 0)) [2] (gSet 2) eYes p_are_methods_1)))))
def p_ordered_method_1 : EM D := (e1 tupleO (eQ (qV 7)))
def p_ordered_method_2 : EM D := (e1 tupleO (eFz (f1 sortO (eFz (eLc (eIt (eV 6)) [7] (gSet 7) eYes p_ordered_method_1)))))
def p_ordered_method_3 : SM := (sDrop (eMt 4 fAppend (eCons (e1 tupleO (eFz (eLc (eIt (eV 5)) [6] (gSet 6) eYes p_ordered_method_2))) eNil)))
def m_ordered_method : FM := runD 8 (sSeq (sAsg (eV 0) (gTupD 3 (gsCons (gSet 1) (gsCons (gSet 2) (gsCons (gSet 3) gsNil)))))
  (sSeq (sNew 4 (eLst eNil))
  (sSeq (sFor (eIt (eV 3)) (gSet 5) p_ordered_method_3)
  (sRet (eTup (eCons (eV 1) (eCons (eV 2) (eCons (e1 tupleO (eQ (qV 4))) eNil))))))))
def p_Kind___init_1 : EM D := (eV 4)
def p_Kind___init_2 : EM D := (eCall m_ordered_method 1 0 (fun ds _ => ds) (eCl1 (eCons (eBinQ ixO (eQ (qV 3)) (qV 4)) eNil)))
def m_Kind___init : FMI := runI 33 5 (sSeq (sIf (eNotB (eTst (eCall m_is_between 3 0 (fun ds _ => ds) (eCl1 (eCons (eV 1) (eCons (eC (.int 1)) (eCons (eC (.int 8)) eNil))))))) (sRaise 3 (eCons (eC (.str z_states)) eNil)) sPass)
  (sSeq (sIf (eNotB (eTst (eCall m_is_between 3 0 (fun ds _ => ds) (eCl1 (eCons (eV 2) (eCons (eC (.int 0)) (eCons (eBinQ subO (eQ (qV 1)) (qC (.int 1))) eNil))))))) (sRaise 3 (eCons (eC (.str z_start)) eNil)) sPass)
  (sSeq (sIf (eNotB (eTst (eCall m_are_methods 2 0 (fun ds _ => ds) (eCl1 (eCons (eV 3) (eCons (eV 1) eNil)))))) (sRaise 3 (eCons (eC (.str z_methods)) eNil)) sPass)
  (sSeq (sFldD 33 0 z_states (eV 1))
  (sSeq (sFldD 33 0 z_start (eV 2))
  (sFldD 33 0 z__methods (eFz (eDc (eIt (eFz (f1 sortO (eFz (f1 listO (eQ (qV 3))))))) [4] (gSet 4) eYes p_Kind___init_1 p_Kind___init_2))))))))
def p_law_copied_1 (rc_ : FM) : SM := (sPut 1 (eV 2) (eCall rc_ 1 0 (fun ds _ => ds) (eCl1 (eCons (eBinQ ixO (eQ (qV 0)) (qV 2)) eNil))))
def p_law_copied_2 (rc_ : FM) : EM D := (eCall rc_ 1 0 (fun ds _ => ds) (eCl1 (eCons (eV 3) eNil)))
def p_law_copied_3 (rc_ : FM) : EM D := (eCall rc_ 1 0 (fun ds _ => ds) (eCl1 (eCons (eV 3) eNil)))
def m_law_copied : Nat → FM
  | 0 => fun _ => .stuck
  | fuel + 1 => runD 4 (sSeq (sIf (eTst (eIsi isi_dict (eQ (qV 0)))) (sSeq (sNew 1 eDctK)
  (sSeq (sFor (eIt (eV 0)) (gSet 2) (p_law_copied_1 (m_law_copied fuel)))
  (sRet (eV 1)))) sPass)
  (sSeq (sIf (eTst (eIsi isi_list (eQ (qV 0)))) (sRet (eFz (eLc (eIt (eV 0)) [3] (gSet 3) eYes (p_law_copied_2 (m_law_copied fuel))))) sPass)
  (sSeq (sIf (eTst (eIsi isi_tuple (eQ (qV 0)))) (sRet (e1 tupleO (eFz (eLc (eIt (eV 0)) [3] (gSet 3) eYes (p_law_copied_3 (m_law_copied fuel)))))) sPass)
  (sRet (eV 0)))))
def m_law_kind : FM := runD 1 (sRet (eFz (eMake 33 m_Kind___init 3 0 (fun ds _ => ds) (eCl1 (eCons (eBinQ ixO (eQ (qV 0)) (qC (.int 0))) (eCons (eBinQ ixO (eQ (qV 0)) (qC (.int 1))) (eCons (eCall (m_law_copied 8) 1 0 (fun ds _ => ds) (eCl1 (eCons (eBinQ ixO (eQ (qV 0)) (qC (.int 2))) eNil))) eNil)))))))
def m_law_call : FM := runD 4 (sSeq (sNew 2 (f1 sortO (eFz (f1 listO (eBinQ ixO (eQ (qV 1)) (qC (.int 2)))))))
  (sSeq (sSet 3 (eBin ixO (eV 2) (eCall m_law_draw 2 0 (fun ds _ => ds) (eCl1 (eCons (eV 0) (eCons (e1 lenO (eQ (qV 2))) eNil))))))
  (sRet (eTup (eCons (eV 3) (eCons (eCall m_law_draw 2 0 (fun ds _ => ds) (eCl1 (eCons (eV 0) (eCons (eBinQ ixO (eBinQ ixO (eBinQ ixO (eQ (qV 1)) (qC (.int 2))) (qV 3)) (qC (.int 0))) eNil)))) (eCons (eCall m_law_draw 2 0 (fun ds _ => ds) (eCl1 (eCons (eV 0) (eCons (eBinQ ixO (eBinQ ixO (eBinQ ixO (eQ (qV 1)) (qC (.int 2))) (qV 3)) (qC (.int 1))) eNil)))) eNil)))))))
def p_law_behind_1 : SM := (sIf (eAndB (eTst (eBin eqO (eV 5) (eBinQ ixO (eQ (qV 2)) (qC (.int 2))))) (eTst (eBinQ notInO (eQ (qV 6)) (qV 3)))) (sDrop (eMt 3 fAppend (eCons (eV 6) eNil))) sPass)
def p_law_behind_2 : SM := (sFor (eIt (eBin ixO (eBinQ ixO (eBinQ ixO (eBin ixO (eBinQ ixO (eQ (qV 0)) (qC (.int 2))) (eBinQ ixO (eQ (qV 2)) (qC (.int 0)))) (qC (.int 2))) (qV 4)) (eBinQ ixO (eQ (qV 2)) (qC (.int 1))))) (gTupD 2 (gsCons (gSet 5) (gsCons (gSet 6) gsNil))) p_law_behind_1)
def m_law_behind : FM := runD 7 (sSeq (sNew 3 (eLst eNil))
  (sSeq (sFor (eIt (eV 1)) (gSet 4) p_law_behind_2)
  (sRet (eFz (f1 sortO (eQ (qV 3)))))))
def p_law_calls_1 : EM D := (eV 9)
def p_law_calls_2 : SM := (sSet 7 (eBin addO (eV 7) (eFz (eLc (eIt (eBin ixO (eBinQ ixO (eBinQ ixO (eBin ixO (eBinQ ixO (eQ (qV 1)) (qC (.int 2))) (eBinQ ixO (eQ (qV 6)) (qC (.int 0)))) (qC (.int 2))) (qV 8)) (eBinQ ixO (eQ (qV 6)) (qC (.int 1))))) [9] (gSet 9) eYes p_law_calls_1))))
def p_law_calls_3 : SM := (sSeq (sSet 6 (eCall m_law_call 2 0 (fun ds _ => ds) (eCl1 (eCons (eV 0) (eCons (eV 1) eNil)))))
  (sSeq (sNew 7 (eLst eNil))
  (sSeq (sFor (eIt (eV 3)) (gSet 8) p_law_calls_2)
  (sSeq (sIf (eAndB (eTst (eBin gtO (e1 lenO (eQ (qV 7))) (eQ (qC (.int 0))))) (eTst (eBin gtO (eCall m_law_draw 2 0 (fun ds _ => ds) (eCl1 (eCons (eV 0) (eCons (eC (.int 8)) eNil)))) (eQ (qC (.int 0)))))) (sSet 6 (eTup (eCons (eBinQ ixO (eQ (qV 6)) (qC (.int 0))) (eCons (eBinQ ixO (eQ (qV 6)) (qC (.int 1))) (eCons (eBinQ ixO (eBin ixO (eV 7) (eCall m_law_draw 2 0 (fun ds _ => ds) (eCl1 (eCons (eV 0) (eCons (e1 lenO (eQ (qV 7))) eNil))))) (qC (.int 0))) eNil))))) sPass)
  (sSeq (sSet 3 (eCall m_law_behind 3 0 (fun ds _ => ds) (eCl1 (eCons (eV 1) (eCons (eV 3) (eCons (eV 6) eNil))))))
  (sDrop (eMt 4 fAppend (eCons (eV 6) eNil))))))))
def m_law_calls : FM := runD 10 (sSeq (sNew 3 (eLst (eCons (eBinQ ixO (eQ (qV 1)) (qC (.int 1))) eNil)))
  (sSeq (sNew 4 (eLst eNil))
  (sSeq (sFor (eRng1 (eCons (eV 2) eNil)) (gSet 5) p_law_calls_3)
  (sRet (eV 4)))))
def p_law_same_1 (rc_ : FM) : EM Bool := (eNotB (eTst (eCall rc_ 2 0 (fun ds _ => ds) (eCl1 (eCons (eBinQ ixO (eQ (qV 0)) (qV 2)) (eCons (eBinQ ixO (eQ (qV 1)) (qV 2)) eNil))))))
def p_law_same_2 (rc_ : FM) : EM D := (eV 2)
def m_law_same : Nat → FM
  | 0 => fun _ => .stuck
  | fuel + 1 => runD 3 (sSeq (sIf (eTst (eBinQ isO (eQ (qV 1)) (qC .non))) (sRet (eBinQ isO (eQ (qV 0)) (qC .non))) sPass)
  (sSeq (sIf (eOrB (eTst (eIsi isi_bool (eQ (qV 1)))) (eTst (eIsi isi_bool (eQ (qV 0))))) (sRet (eAnd (eIsi isi_bool (eQ (qV 1))) (eAnd (eIsi isi_bool (eQ (qV 0))) (eBinQ eqO (eQ (qV 0)) (qV 1))))) sPass)
  (sSeq (sIf (eTst (eIsi isi_int (eQ (qV 1)))) (sRet (eAnd (eIsi isi_int (eQ (qV 0))) (eBinQ eqO (eQ (qV 0)) (qV 1)))) sPass)
  (sSeq (sIf (eTst (eIsi isi_str (eQ (qV 1)))) (sRet (eAnd (eIsi isi_str (eQ (qV 0))) (eBinQ eqO (eQ (qV 0)) (qV 1)))) sPass)
  (sSeq (sIf (eOrB (eTst (eBin neO (eIsi isi_list (eQ (qV 1))) (eIsi isi_list (eQ (qV 0))))) (eNotB (eTst (eIsi isi_list_tuple (eQ (qV 0)))))) (sRet (eC (.bl false))) sPass)
  (sSeq (sIf (eTst (eBin neO (e1 lenO (eQ (qV 0))) (e1 lenO (eQ (qV 1))))) (sRet (eC (.bl false))) sPass)
  (sRet (eBin eqO (e1 lenO (eFz (eLc (eRng1 (eCons (e1 lenO (eQ (qV 1))) eNil)) [2] (gSet 2) (p_law_same_1 (m_law_same fuel)) (p_law_same_2 (m_law_same fuel))))) (eQ (qC (.int 0)))))))))))
def m_Kind___contains : FM := runD 2 (sRet (eAnd (eIsi isi_str (eQ (qV 1))) (eBin inO (eV 1) (eFld okf__methods z__methods (eQ (qV 0))))))
def disp___contains__ : Nat → Option FM := fun c => if c = 33 then some m_Kind___contains else none
def m_Kind__method : FM := runD 2 (sSeq (sIf (eTst (eIn2 disp___contains__ not (eV 1) (eV 0))) (sRaise 4 (eCons (eV 1) eNil)) sPass)
  (sRet (eBinQ ixO (eFld okf__methods z__methods (eQ (qV 0))) (qV 1))))
def disp__method : Nat → Option FM := fun c => if c = 33 then some m_Kind__method else none
def m_Kind_answers : FM := runD 7 (sSeq (sIf (eNotB (eTst (eCall m_is_between 3 0 (fun ds _ => ds) (eCl1 (eCons (eV 1) (eCons (eC (.int 0)) (eCons (eBin subO (eFld okf_states z_states (eQ (qV 0))) (eQ (qC (.int 1)))) eNil))))))) (sRaise 5 (eCons (eV 1) eNil)) sPass)
  (sSeq (sAsg (eMeth disp__method 1 0 (fun ds _ => ds) (eV 0) (eCl1 (eCons (eV 2) eNil))) (gTupD 3 (gsCons (gSet 4) (gsCons (gSet 5) (gsCons (gSet 6) gsNil)))))
  (sSeq (sIf (eNotB (eTst (eCall m_is_between 3 0 (fun ds _ => ds) (eCl1 (eCons (eV 3) (eCons (eC (.int 0)) (eCons (eBinQ subO (eQ (qV 4)) (qC (.int 1))) eNil))))))) (sRaise 6 (eCons (eV 3) eNil)) sPass)
  (sRet (eBinQ ixO (eBinQ ixO (eQ (qV 6)) (qV 1)) (qV 3))))))
def disp_answers : Nat → Option FM := fun c => if c = 33 then some m_Kind_answers else none
def p_states_behind_1 : SM := (sIf (eTst (eBinQ eqO (eQ (qV 8)) (qV 5))) (sPut 6 (eV 9) (eC (.bl true))) sPass)
def p_states_behind_2 : SM := (sFor (eIt (eMeth disp_answers 3 0 (fun ds _ => ds) (eV 0) (eCl1 (eCons (eV 7) (eCons (eV 3) (eCons (eV 4) eNil)))))) (gTupD 2 (gsCons (gSet 8) (gsCons (gSet 9) gsNil))) p_states_behind_1)
def m_states_behind : FM := runD 10 (sSeq (sAsg (eV 2) (gTupD 3 (gsCons (gSet 3) (gsCons (gSet 4) (gsCons (gSet 5) gsNil)))))
  (sSeq (sNew 6 eDctK)
  (sSeq (sFor (eIt (eV 1)) (gSet 7) p_states_behind_2)
  (sRet (e1 tupleO (eFz (f1 sortO (eFz (f1 listO (eQ (qV 6)))))))))))
def m_Kind_results : FM := runD 2 (sRet (eBinQ ixO (eMeth disp__method 1 0 (fun ds _ => ds) (eV 0) (eCl1 (eCons (eV 1) eNil))) (qC (.int 1))))
def disp_results : Nat → Option FM := fun c => if c = 33 then some m_Kind_results else none
def m_Kind_arguments : FM := runD 2 (sRet (eBinQ ixO (eMeth disp__method 1 0 (fun ds _ => ds) (eV 0) (eCl1 (eCons (eV 1) eNil))) (qC (.int 0))))
def disp_arguments : Nat → Option FM := fun c => if c = 33 then some m_Kind_arguments else none
def m_is_told_call : FM := runD 2 (sSeq (sIf (eOrB (eNotB (eTst (eCall m_is_row_of 3 0 (fun ds _ => ds) (eCl1 (eCons (eV 1) (eCons (eC (.int 3)) (eCons (eC (.int 3)) eNil))))))) (eTst (eIn2 disp___contains__ not (eBinQ ixO (eQ (qV 1)) (qC (.int 0))) (eV 0)))) (sRet (eC (.bl false))) sPass)
  (sSeq (sIf (eNotB (eTst (eCall m_is_between 3 0 (fun ds _ => ds) (eCl1 (eCons (eBinQ ixO (eQ (qV 1)) (qC (.int 1))) (eCons (eC (.int 0)) (eCons (eBin subO (eMeth disp_arguments 1 0 (fun ds _ => ds) (eV 0) (eCl1 (eCons (eBinQ ixO (eQ (qV 1)) (qC (.int 0))) eNil))) (eQ (qC (.int 1)))) eNil))))))) (sRet (eC (.bl false))) sPass)
  (sRet (eCall m_is_between 3 0 (fun ds _ => ds) (eCl1 (eCons (eBinQ ixO (eQ (qV 1)) (qC (.int 2))) (eCons (eC (.int 0)) (eCons (eBin subO (eMeth disp_results 1 0 (fun ds _ => ds) (eV 0) (eCl1 (eCons (eBinQ ixO (eQ (qV 1)) (qC (.int 0))) eNil))) (eQ (qC (.int 1)))) eNil))))))))
def p_reached_1 : SM := (sIf (eNotB (eTst (eCall m_is_told_call 2 0 (fun ds _ => ds) (eCl1 (eCons (eV 0) (eCons (eV 3) eNil)))))) (sRaise 9 (eCons (eV 2) eNil)) sPass)
def p_reached_2 : SM := (sSet 4 (eCall m_states_behind 3 0 (fun ds _ => ds) (eCl1 (eCons (eV 0) (eCons (eV 4) (eCons (eV 3) eNil))))))
def m_reached : FM := runD 5 (sSeq (sIf (eNotB (eTst (eCall m_is_row_of 3 0 (fun ds _ => ds) (eCl1 (eCons (eV 1) (eCons (eC (.int 0)) (eCons (eC (.int 60)) eNil))))))) (sRaise 9 (eCons (eNeg (eC (.int 1))) eNil)) sPass)
  (sSeq (sFor (eEnum (eV 1)) (gTupD 2 (gsCons (gSet 2) (gsCons (gSet 3) gsNil))) p_reached_1)
  (sSeq (sSet 4 (eTup (eCons (eFld okf_start z_start (eQ (qV 0))) eNil)))
  (sSeq (sFor (eIt (eV 1)) (gSet 3) p_reached_2)
  (sRet (eV 4))))))
def m_law_refused : FM := runD 4 (sSeq (sSet 2 (eC (.str z_let)))
  (sSeq (sTry (sDrop (eCall m_reached 2 0 (fun ds _ => ds) (eCl1 (eCons (eV 0) (eCons (eV 1) eNil))))) (⟨ans_BadCalls, some 3, (sSet 2 (eXf okx_index 3 z_index))⟩ :: (⟨ans_TowerError, none, (sSet 2 (eC (.str z_other)))⟩ :: [])))
  (sRet (eV 2))))
def p_law_reached_1 : SM := (sSet 2 (eCall m_law_behind 3 0 (fun ds _ => ds) (eCl1 (eCons (eV 0) (eCons (eV 2) (eCons (eV 3) eNil))))))
def m_law_reached : FM := runD 4 (sSeq (sNew 2 (eLst (eCons (eBinQ ixO (eQ (qV 0)) (qC (.int 1))) eNil)))
  (sSeq (sFor (eIt (eV 1)) (gSet 3) p_law_reached_1)
  (sRet (eV 2))))
def p_law_1 : EM D := (eBin ixO (eFz (eLst (eCons (eV 19) (eCons (eFz (f1 listO (eQ (qV 19)))) eNil)))) (eCall m_law_draw 2 0 (fun ds _ => ds) (eCl1 (eCons (eV 1) (eCons (eC (.int 2)) eNil)))))
def p_law_2 : SM := (sIf (eNotB (eTst (eCall (m_law_same 8) 2 0 (fun ds _ => ds) (eCl1 (eCons (eCall m_reached 2 0 (fun ds _ => ds) (eCl1 (eCons (eV 4) (eCons (eSl (eV 6) ePn (eP1 (eV 8))) eNil)))) (eCons (e1 tupleO (eCall m_law_reached 2 0 (fun ds _ => ds) (eCl1 (eCons (eV 3) (eCons (eSl (eV 5) ePn (eP1 (eV 8))) eNil))))) eNil)))))) (sRet (eC (.bl false))) sPass)
def ml0 : SM := (sSet 2 (eBin ixO (eFz (eLst (eCons (eCall m_law_draw 2 0 (fun ds _ => ds) (eCl1 (eCons (eV 1) (eCons (eC (.int 9)) eNil)))) (eCons (eCall m_law_draw 2 0 (fun ds _ => ds) (eCl1 (eCons (eV 1) (eCons (eC (.int 61)) eNil)))) eNil)))) (e1 int1O (eBin eqO (eCall m_law_draw 2 0 (fun ds _ => ds) (eCl1 (eCons (eV 1) (eCons (eC (.int 4)) eNil)))) (eQ (qC (.int 0)))))))
def ml1 : SM := (sSet 3 (eCall m_law_model 3 0 (fun ds _ => ds) (eCl1 (eCons (eV 1) (eCons (eC (.bl false)) (eCons (eC (.int 4)) eNil))))))
def ml2 : SM := (sSet 4 (eCall m_law_kind 1 0 (fun ds _ => ds) (eCl1 (eCons (eV 3) eNil))))
def ml3 : SM := (sSet 5 (eCall m_law_calls 3 0 (fun ds _ => ds) (eCl1 (eCons (eV 1) (eCons (eV 3) (eCons (eV 2) eNil))))))
def ml4 : SM := (sNew 6 (eLc (eIt (eV 5)) [19] (gSet 19) eYes p_law_1))
def ml5 : SM := (sSet 7 (eCall (m_law_copied 8) 1 0 (fun ds _ => ds) (eCl1 (eCons (eV 6) eNil))))
def ml6 : SM := (sFor (eIt (eFz (eLst (eCons (eV 2) (eCons (eBinQ fdivG (eQ (qV 2)) (qC (.int 2))) (eCons (eC (.int 0)) eNil)))))) (gSet 8) p_law_2)
def ml7 : SM := (sIf (eNotB (eTst (eCall (m_law_same 8) 2 0 (fun ds _ => ds) (eCl1 (eCons (eCall m_reached 2 0 (fun ds _ => ds) (eCl1 (eCons (eV 4) (eCons (e1 tupleO (eQ (qV 6))) eNil)))) (eCons (e1 tupleO (eCall m_law_reached 2 0 (fun ds _ => ds) (eCl1 (eCons (eV 3) (eCons (eV 5) eNil))))) eNil)))))) (sRet (eC (.bl false))) sPass)
def ml8 : SM := (sIf (eNotB (eTst (eCall (m_law_same 8) 2 0 (fun ds _ => ds) (eCl1 (eCons (eV 6) (eCons (eV 7) eNil)))))) (sRet (eC (.bl false))) sPass)
def ml9 : SM := (sSet 9 (eBinQ ixO (eFz (f1 sortO (eFz (f1 listO (eBinQ ixO (eQ (qV 3)) (qC (.int 2))))))) (qC (.int 0))))
def ml10 : SM := (sAsg (eBinQ ixO (eBinQ ixO (eQ (qV 3)) (qC (.int 2))) (qV 9)) (gTupD 3 (gsCons (gSet 10) (gsCons (gSet 11) (gsCons (gSet 12) gsNil)))))
def ml11 : SM := (sNew 13 (eLst (eCons (eC .non) (eCons (eTup eNil) (eCons (eTup (eCons (eV 9) (eCons (eC (.int 0)) eNil))) (eCons (eTup (eCons (eV 9) (eCons (eC (.int 0)) (eCons (eC (.int 0)) (eCons (eC (.int 0)) eNil))))) (eCons (eTup (eCons (eV 9) (eCons (eV 10) (eCons (eC (.int 0)) eNil)))) (eCons (eTup (eCons (eV 9) (eCons (eC (.int 0)) (eCons (eV 11) eNil)))) (eCons (eTup (eCons (eV 9) (eCons (eC (.bl true)) (eCons (eC (.int 0)) eNil)))) eNil)))))))))
def ml12 : SM := (sSet 13 (eBin addO (eV 13) (eFz (eLst (eCons (eTup (eCons (eV 9) (eCons (eC (.int 0)) (eCons (eC .non) eNil)))) (eCons (eTup (eCons (eC (.str zh_)) (eCons (eC (.int 0)) (eCons (eC (.int 0)) eNil)))) (eCons (eTup (eCons (eFz (eLst eNil)) (eCons (eC (.int 0)) (eCons (eC (.int 0)) eNil)))) (eCons (eV 9) (eCons (eC (.int 0)) (eCons (eFz eDctK) (eCons (eTup (eCons (eV 9) (eCons (eNeg (eC (.int 1))) (eCons (eC (.int 0)) eNil)))) (eCons (eTup (eCons (eV 9) (eCons (eC (.int 0)) (eCons (eC (.str z_0)) eNil)))) (eCons (eTup (eCons (eFz eDctK) (eCons (eC (.int 0)) (eCons (eC (.int 0)) eNil)))) eNil)))))))))))))
def ml13 : SM := (sSet 14 (eCall m_law_draw 2 0 (fun ds _ => ds) (eCl1 (eCons (eV 1) (eCons (eBinQ addO (eQ (qV 2)) (qC (.int 1))) eNil)))))
def ml14 : SM := (sNew 15 (eCat (eBin addO (eSl (eV 6) ePn (eP1 (eV 14))) (eFz (eLst (eCons (eBin ixO (eV 13) (eCall m_law_draw 2 0 (fun ds _ => ds) (eCl1 (eCons (eV 1) (eCons (e1 lenO (eQ (qV 13))) eNil))))) eNil)))) (eSl (eV 6) (eP1 (eV 14)) ePn)))
def ml15 : SM := (sIf (eTst (eBin eqO (eCall m_law_draw 2 0 (fun ds _ => ds) (eCl1 (eCons (eV 1) (eCons (eC (.int 2)) eNil)))) (eQ (qC (.int 0))))) (sDrop (eMt 15 fAppend (eCons (eC .non) eNil))) sPass)
def ml16 : SM := (sSet 16 (eV 14))
def ml17 : SM := (sIf (eTst (eBin gtO (e1 lenO (eQ (qV 15))) (eQ (qC (.int 60))))) (sSet 16 (eNeg (eC (.int 1)))) sPass)
def ml18 : SM := (sIf (eNotB (eTst (eCall (m_law_same 8) 2 0 (fun ds _ => ds) (eCl1 (eCons (eCall m_law_refused 2 0 (fun ds _ => ds) (eCl1 (eCons (eV 4) (eCons (eV 15) eNil)))) (eCons (eV 16) eNil)))))) (sRet (eC (.bl false))) sPass)
def ml19 : SM := (sNew 17 (eRep (eLst (eCons (eCall m_law_call 2 0 (fun ds _ => ds) (eCl1 (eCons (eV 1) (eCons (eV 3) eNil)))) eNil)) (qC (.int 61))))
def ml20 : SM := (sSet 18 (eBin ixO (eFz (eLst (eCons (eC .non) (eCons (eFz eDctK) (eCons (eC (.str zh_)) (eCons (eC (.int 0)) (eCons (eV 17) (eCons (e1 tupleO (eQ (qV 17))) eNil)))))))) (eCall m_law_draw 2 0 (fun ds _ => ds) (eCl1 (eCons (eV 1) (eCons (eC (.int 6)) eNil))))))
def ml21 : SM := (sRet (eCall (m_law_same 8) 2 0 (fun ds _ => ds) (eCl1 (eCons (eCall m_law_refused 2 0 (fun ds _ => ds) (eCl1 (eCons (eV 4) (eCons (eV 18) eNil)))) (eCons (eNeg (eC (.int 1))) eNil)))))
def m_law : SM := (sSeq ml0 (sSeq ml1 (sSeq ml2 (sSeq ml3 (sSeq ml4 (sSeq ml5 (sSeq ml6 (sSeq ml7 (sSeq ml8 (sSeq ml9 (sSeq ml10 (sSeq ml11 (sSeq ml12 (sSeq ml13 (sSeq ml14 (sSeq ml15 (sSeq ml16 (sSeq ml17 (sSeq ml18 (sSeq ml19 (sSeq ml20 ml21)))))))))))))))))))))
end DL

namespace DL
open PySem PySem.Spec PyProof.Rows L2 PySem.W
abbrev prg : Program := PySem.Challenge.pw_towerup_k07_rows_of_calls
def top (i : Nat) : Stmt := prg.main.body.getD i (.Pass ⟨0, 0, 0, 0⟩)
def mem (i j : Nat) : Stmt := match top i with
  | .ClassDef _ _ _ b _ _ _ _ _ _ _ => b.getD j (.Pass ⟨0, 0, 0, 0⟩)
  | s => s
structure Txt (K : PySem.W.Frag) (mg : PySem.Str → Option Value) where
  ad : Nat → Addr
  fd : Nat → FuncData
  ca : Nat → Addr
  F_law_pool : FunD K (PySem.Str.ofString "_law_pool") (PySem.Str.ofString "_law_pool") (defArgs (top 32)) (defBody (top 32)) (defScope (top 32)) [] [] (ad 0) (fd 0)
  g__law_pool : mg (PySem.Str.ofString "_law_pool") = some (.ref (ad 0))
  F_law_draw : FunD K (PySem.Str.ofString "_law_draw") (PySem.Str.ofString "_law_draw") (defArgs (top 33)) (defBody (top 33)) (defScope (top 33)) [] [] (ad 1) (fd 1)
  g__law_draw : mg (PySem.Str.ofString "_law_draw") = some (.ref (ad 1))
  F_law_names : FunD K (PySem.Str.ofString "_law_names") (PySem.Str.ofString "_law_names") (defArgs (top 34)) (defBody (top 34)) (defScope (top 34)) [] [] (ad 2) (fd 2)
  g__law_names : mg (PySem.Str.ofString "_law_names") = some (.ref (ad 2))
  F_law_answers : FunD K (PySem.Str.ofString "_law_answers") (PySem.Str.ofString "_law_answers") (defArgs (top 35)) (defBody (top 35)) (defScope (top 35)) [] [] (ad 3) (fd 3)
  g__law_answers : mg (PySem.Str.ofString "_law_answers") = some (.ref (ad 3))
  F_law_method : FunD K (PySem.Str.ofString "_law_method") (PySem.Str.ofString "_law_method") (defArgs (top 36)) (defBody (top 36)) (defScope (top 36)) [] [] (ad 4) (fd 4)
  g__law_method : mg (PySem.Str.ofString "_law_method") = some (.ref (ad 4))
  F_law_model : FunD K (PySem.Str.ofString "_law_model") (PySem.Str.ofString "_law_model") (defArgs (top 37)) (defBody (top 37)) (defScope (top 37)) [] [] (ad 5) (fd 5)
  g__law_model : mg (PySem.Str.ofString "_law_model") = some (.ref (ad 5))
  F_is_integer : FunD K (PySem.Str.ofString "is_integer") (PySem.Str.ofString "is_integer") (defArgs (top 11)) (defBody (top 11)) (defScope (top 11)) [] [] (ad 6) (fd 6)
  g_is_integer : mg (PySem.Str.ofString "is_integer") = some (.ref (ad 6))
  F_is_between : FunD K (PySem.Str.ofString "is_between") (PySem.Str.ofString "is_between") (defArgs (top 12)) (defBody (top 12)) (defScope (top 12)) [] [] (ad 7) (fd 7)
  g_is_between : mg (PySem.Str.ofString "is_between") = some (.ref (ad 7))
  F_BadKind___init : FunD K (PySem.Str.ofString "__init__") (PySem.Str.ofString "BadKind.__init__") (defArgs (mem 3 0)) (defBody (mem 3 0)) (defScope (mem 3 0)) [] [] (ad 8) (fd 8)
  F_is_name : FunD K (PySem.Str.ofString "is_name") (PySem.Str.ofString "is_name") (defArgs (top 15)) (defBody (top 15)) (defScope (top 15)) [] [] (ad 9) (fd 9)
  g_is_name : mg (PySem.Str.ofString "is_name") = some (.ref (ad 9))
  F_is_row : FunD K (PySem.Str.ofString "is_row") (PySem.Str.ofString "is_row") (defArgs (top 13)) (defBody (top 13)) (defScope (top 13)) [] [] (ad 10) (fd 10)
  g_is_row : mg (PySem.Str.ofString "is_row") = some (.ref (ad 10))
  F_is_row_of : FunD K (PySem.Str.ofString "is_row_of") (PySem.Str.ofString "is_row_of") (defArgs (top 14)) (defBody (top 14)) (defScope (top 14)) [] [] (ad 11) (fd 11)
  g_is_row_of : mg (PySem.Str.ofString "is_row_of") = some (.ref (ad 11))
  F_are_answers : FunD K (PySem.Str.ofString "are_answers") (PySem.Str.ofString "are_answers") (defArgs (top 26)) (defBody (top 26)) (defScope (top 26)) [] [] (ad 12) (fd 12)
  g_are_answers : mg (PySem.Str.ofString "are_answers") = some (.ref (ad 12))
  F_is_method : FunD K (PySem.Str.ofString "is_method") (PySem.Str.ofString "is_method") (defArgs (top 27)) (defBody (top 27)) (defScope (top 27)) [] [] (ad 13) (fd 13)
  g_is_method : mg (PySem.Str.ofString "is_method") = some (.ref (ad 13))
  F_are_methods : FunD K (PySem.Str.ofString "are_methods") (PySem.Str.ofString "are_methods") (defArgs (top 28)) (defBody (top 28)) (defScope (top 28)) [] [] (ad 14) (fd 14)
  g_are_methods : mg (PySem.Str.ofString "are_methods") = some (.ref (ad 14))
  F_ordered_method : FunD K (PySem.Str.ofString "ordered_method") (PySem.Str.ofString "ordered_method") (defArgs (top 29)) (defBody (top 29)) (defScope (top 29)) [] [] (ad 15) (fd 15)
  g_ordered_method : mg (PySem.Str.ofString "ordered_method") = some (.ref (ad 15))
  F_Kind___init : FunD K (PySem.Str.ofString "__init__") (PySem.Str.ofString "Kind.__init__") (defArgs (mem 30 0)) (defBody (mem 30 0)) (defScope (mem 30 0)) [] [] (ad 16) (fd 16)
  F_law_copied : FunD K (PySem.Str.ofString "_law_copied") (PySem.Str.ofString "_law_copied") (defArgs (top 38)) (defBody (top 38)) (defScope (top 38)) [] [] (ad 17) (fd 17)
  g__law_copied : mg (PySem.Str.ofString "_law_copied") = some (.ref (ad 17))
  F_law_kind : FunD K (PySem.Str.ofString "_law_kind") (PySem.Str.ofString "_law_kind") (defArgs (top 39)) (defBody (top 39)) (defScope (top 39)) [] [] (ad 18) (fd 18)
  g__law_kind : mg (PySem.Str.ofString "_law_kind") = some (.ref (ad 18))
  F_law_call : FunD K (PySem.Str.ofString "_law_call") (PySem.Str.ofString "_law_call") (defArgs (top 43)) (defBody (top 43)) (defScope (top 43)) [] [] (ad 19) (fd 19)
  g__law_call : mg (PySem.Str.ofString "_law_call") = some (.ref (ad 19))
  F_law_behind : FunD K (PySem.Str.ofString "_law_behind") (PySem.Str.ofString "_law_behind") (defArgs (top 41)) (defBody (top 41)) (defScope (top 41)) [] [] (ad 20) (fd 20)
  g__law_behind : mg (PySem.Str.ofString "_law_behind") = some (.ref (ad 20))
  F_law_calls : FunD K (PySem.Str.ofString "_law_calls") (PySem.Str.ofString "_law_calls") (defArgs (top 44)) (defBody (top 44)) (defScope (top 44)) [] [] (ad 21) (fd 21)
  g__law_calls : mg (PySem.Str.ofString "_law_calls") = some (.ref (ad 21))
  F_law_same : FunD K (PySem.Str.ofString "_law_same") (PySem.Str.ofString "_law_same") (defArgs (top 40)) (defBody (top 40)) (defScope (top 40)) [] [] (ad 22) (fd 22)
  g__law_same : mg (PySem.Str.ofString "_law_same") = some (.ref (ad 22))
  F_BadCalls___init : FunD K (PySem.Str.ofString "__init__") (PySem.Str.ofString "BadCalls.__init__") (defArgs (mem 7 0)) (defBody (mem 7 0)) (defScope (mem 7 0)) [] [] (ad 23) (fd 23)
  F_Kind___contains : FunD K (PySem.Str.ofString "__contains__") (PySem.Str.ofString "Kind.__contains__") (defArgs (mem 30 1)) (defBody (mem 30 1)) (defScope (mem 30 1)) [] [] (ad 24) (fd 24)
  F_NoMethod___init : FunD K (PySem.Str.ofString "__init__") (PySem.Str.ofString "NoMethod.__init__") (defArgs (mem 4 0)) (defBody (mem 4 0)) (defScope (mem 4 0)) [] [] (ad 25) (fd 25)
  F_Kind__method : FunD K (PySem.Str.ofString "_method") (PySem.Str.ofString "Kind._method") (defArgs (mem 30 3)) (defBody (mem 30 3)) (defScope (mem 30 3)) [] [] (ad 26) (fd 26)
  F_NoState___init : FunD K (PySem.Str.ofString "__init__") (PySem.Str.ofString "NoState.__init__") (defArgs (mem 5 0)) (defBody (mem 5 0)) (defScope (mem 5 0)) [] [] (ad 27) (fd 27)
  F_NoArgument___init : FunD K (PySem.Str.ofString "__init__") (PySem.Str.ofString "NoArgument.__init__") (defArgs (mem 6 0)) (defBody (mem 6 0)) (defScope (mem 6 0)) [] [] (ad 28) (fd 28)
  F_Kind_answers : FunD K (PySem.Str.ofString "answers") (PySem.Str.ofString "Kind.answers") (defArgs (mem 30 7)) (defBody (mem 30 7)) (defScope (mem 30 7)) [] [] (ad 29) (fd 29)
  F_states_behind : FunD K (PySem.Str.ofString "states_behind") (PySem.Str.ofString "states_behind") (defArgs (top 19)) (defBody (top 19)) (defScope (top 19)) [] [] (ad 30) (fd 30)
  g_states_behind : mg (PySem.Str.ofString "states_behind") = some (.ref (ad 30))
  F_Kind_results : FunD K (PySem.Str.ofString "results") (PySem.Str.ofString "Kind.results") (defArgs (mem 30 6)) (defBody (mem 30 6)) (defScope (mem 30 6)) [] [] (ad 31) (fd 31)
  F_Kind_arguments : FunD K (PySem.Str.ofString "arguments") (PySem.Str.ofString "Kind.arguments") (defArgs (mem 30 5)) (defBody (mem 30 5)) (defScope (mem 30 5)) [] [] (ad 32) (fd 32)
  F_is_told_call : FunD K (PySem.Str.ofString "is_told_call") (PySem.Str.ofString "is_told_call") (defArgs (top 18)) (defBody (top 18)) (defScope (top 18)) [] [] (ad 33) (fd 33)
  g_is_told_call : mg (PySem.Str.ofString "is_told_call") = some (.ref (ad 33))
  F_reached : FunD K (PySem.Str.ofString "reached") (PySem.Str.ofString "reached") (defArgs (top 20)) (defBody (top 20)) (defScope (top 20)) [] [] (ad 34) (fd 34)
  g_reached : mg (PySem.Str.ofString "reached") = some (.ref (ad 34))
  F_law_refused : FunD K (PySem.Str.ofString "_law_refused") (PySem.Str.ofString "_law_refused") (defArgs (top 45)) (defBody (top 45)) (defScope (top 45)) [] [] (ad 35) (fd 35)
  g__law_refused : mg (PySem.Str.ofString "_law_refused") = some (.ref (ad 35))
  F_law_reached : FunD K (PySem.Str.ofString "_law_reached") (PySem.Str.ofString "_law_reached") (defArgs (top 42)) (defBody (top 42)) (defScope (top 42)) [] [] (ad 36) (fd 36)
  g__law_reached : mg (PySem.Str.ofString "_law_reached") = some (.ref (ad 36))
  F_law : FunD K (PySem.Str.ofString "law") (PySem.Str.ofString "law") (defArgs (top 46)) (defBody (top 46)) (defScope (top 46)) [] [] (ad 37) (fd 37)
  g_law : mg (PySem.Str.ofString "law") = some (.ref (ad 37))
  n_len : mg (PySem.Str.ofString "len") = none
  n_all : mg (PySem.Str.ofString "all") = none
  n_isinstance : mg (PySem.Str.ofString "isinstance") = none
  n_sorted : mg (PySem.Str.ofString "sorted") = none
  n_tuple : mg (PySem.Str.ofString "tuple") = none
  n_list : mg (PySem.Str.ofString "list") = none
  n_int : mg (PySem.Str.ofString "int") = none
  n_range : mg (PySem.Str.ofString "range") = none
  n_enumerate : mg (PySem.Str.ofString "enumerate") = none
  n_bool : mg (PySem.Str.ofString "bool") = none
  n_str : mg (PySem.Str.ofString "str") = none
  n_dict : mg (PySem.Str.ofString "dict") = none
  n_max : mg (PySem.Str.ofString "max") = none
  c_LETTERS : ∃ t, mg (PySem.Str.ofString "LETTERS") = some (.str (PySem.Str.ofString "abcdefghijklmnopqrstuvwxyz") t)
  c_LONGEST_NAME : ∃ t, mg (PySem.Str.ofString "LONGEST_NAME") = some (.int 8 t)
  c_MOST_CALLS : ∃ t, mg (PySem.Str.ofString "MOST_CALLS") = some (.int 60 t)
  c_MOST_STATES : ∃ t, mg (PySem.Str.ofString "MOST_STATES") = some (.int 8 t)
  c_MOST_METHODS : ∃ t, mg (PySem.Str.ofString "MOST_METHODS") = some (.int 4 t)
  c_MOST_VALUES : ∃ t, mg (PySem.Str.ofString "MOST_VALUES") = some (.int 4 t)
  c_MOST_ANSWERS : ∃ t, mg (PySem.Str.ofString "MOST_ANSWERS") = some (.int 8 t)
  g_TowerError : mg (PySem.Str.ofString "TowerError") = some (.ref (ca 0))
  g_BadKind : mg (PySem.Str.ofString "BadKind") = some (.ref (ca 3))
  g_NoMethod : mg (PySem.Str.ofString "NoMethod") = some (.ref (ca 4))
  g_NoState : mg (PySem.Str.ofString "NoState") = some (.ref (ca 5))
  g_NoArgument : mg (PySem.Str.ofString "NoArgument") = some (.ref (ca 6))
  g_BadCalls : mg (PySem.Str.ofString "BadCalls") = some (.ref (ca 9))
  g_Kind : mg (PySem.Str.ofString "Kind") = some (.ref (ca 33))
  cl_Kind : Cls K (ca 33)
  ob_Kind : ObC K (ca 33)
  mk_Kind : Mk K (ca 33) (ad 16)
  na_Kind_states : NoAttr K (ca 33) (PySem.Str.ofString "states")
  na_Kind_start : NoAttr K (ca 33) (PySem.Str.ofString "start")
  na_Kind__methods : NoAttr K (ca 33) (PySem.Str.ofString "_methods")
  me_Kind___contains__ : Meth K (ca 33) (PySem.Str.ofString "__contains__") (ad 24)
  me_Kind__method : Meth K (ca 33) (PySem.Str.ofString "_method") (ad 26)
  me_Kind_answers : Meth K (ca 33) (PySem.Str.ofString "answers") (ad 29)
  me_Kind_results : Meth K (ca 33) (PySem.Str.ofString "results") (ad 31)
  me_Kind_arguments : Meth K (ca 33) (PySem.Str.ofString "arguments") (ad 32)
  ki_Kind : ∀ T ∈ ["NoneType", "bool", "int", "str", "list", "tuple", "dict"], PySem.W.kitOne K (.type T) (.ref (ca 33)) = some false
  ox_BadKind : OexC K (ca 3)
  iC_BadKind : PySem.W.findIn K (.ref (ca 3)) "__init__" = some (some (.ref (ad 8)))
  tI_BadKind : PySem.W.typeIn K (.ref (ad 8)) = some (.type "function")
  xf_BadKind : XfC K (ca 3)
  nx_BadKind_part : PySem.W.findIn K (.ref (ca 3)) (PySem.Str.ofString "part") = some none
  ox_NoMethod : OexC K (ca 4)
  iC_NoMethod : PySem.W.findIn K (.ref (ca 4)) "__init__" = some (some (.ref (ad 25)))
  tI_NoMethod : PySem.W.typeIn K (.ref (ad 25)) = some (.type "function")
  xf_NoMethod : XfC K (ca 4)
  nx_NoMethod_method : PySem.W.findIn K (.ref (ca 4)) (PySem.Str.ofString "method") = some none
  ox_NoState : OexC K (ca 5)
  iC_NoState : PySem.W.findIn K (.ref (ca 5)) "__init__" = some (some (.ref (ad 27)))
  tI_NoState : PySem.W.typeIn K (.ref (ad 27)) = some (.type "function")
  xf_NoState : XfC K (ca 5)
  nx_NoState_state : PySem.W.findIn K (.ref (ca 5)) (PySem.Str.ofString "state") = some none
  ox_NoArgument : OexC K (ca 6)
  iC_NoArgument : PySem.W.findIn K (.ref (ca 6)) "__init__" = some (some (.ref (ad 28)))
  tI_NoArgument : PySem.W.typeIn K (.ref (ad 28)) = some (.type "function")
  xf_NoArgument : XfC K (ca 6)
  nx_NoArgument_argument : PySem.W.findIn K (.ref (ca 6)) (PySem.Str.ofString "argument") = some none
  ox_BadCalls : OexC K (ca 9)
  iC_BadCalls : PySem.W.findIn K (.ref (ca 9)) "__init__" = some (some (.ref (ad 23)))
  tI_BadCalls : PySem.W.typeIn K (.ref (ad 23)) = some (.type "function")
  xf_BadCalls : XfC K (ca 9)
  nx_BadCalls_index : PySem.W.findIn K (.ref (ca 9)) (PySem.Str.ofString "index") = some none
  em_BadKind_BadCalls : PySem.W.exmOne K (.ref (ca 3)) (.ref (ca 9)) = some false
  em_NoMethod_BadCalls : PySem.W.exmOne K (.ref (ca 4)) (.ref (ca 9)) = some false
  em_NoState_BadCalls : PySem.W.exmOne K (.ref (ca 5)) (.ref (ca 9)) = some false
  em_NoArgument_BadCalls : PySem.W.exmOne K (.ref (ca 6)) (.ref (ca 9)) = some false
  em_BadCalls_BadCalls : PySem.W.exmOne K (.ref (ca 9)) (.ref (ca 9)) = some true
  em_BadKind_TowerError : PySem.W.exmOne K (.ref (ca 3)) (.ref (ca 0)) = some true
  em_NoMethod_TowerError : PySem.W.exmOne K (.ref (ca 4)) (.ref (ca 0)) = some true
  em_NoState_TowerError : PySem.W.exmOne K (.ref (ca 5)) (.ref (ca 0)) = some true
  em_NoArgument_TowerError : PySem.W.exmOne K (.ref (ca 6)) (.ref (ca 0)) = some true
  em_BadCalls_TowerError : PySem.W.exmOne K (.ref (ca 9)) (.ref (ca 0)) = some true
section
variable {P : Program} {w : World} {K : PySem.W.Frag} {mg : PySem.Str → Option Value} {base : Heap}
theorem ru65 {k : Nat} {A : Around} (r : Room k A) : A.units + 65 < cLine := by have := r.un; omega
theorem ru1 {k : Nat} {A : Around} (r : Room k A) : A.units + 1 < cLine := by have := r.un; omega
abbrev LT (T : Txt K mg) : Ly K := { CA := T.ca, opin := fun _ => True, xa := 0, xc := .none, xd := none, wok := wokP, wst := wstP, wmu := wmuP }
theorem ia_int (T : Txt K mg) : IsiA (LT T) (.type "int") isi_int := iaB_int
theorem ia_bool (T : Txt K mg) : IsiA (LT T) (.type "bool") isi_bool := iaB_bool
theorem ia_str (T : Txt K mg) : IsiA (LT T) (.type "str") isi_str := iaB_str
theorem ia_list (T : Txt K mg) : IsiA (LT T) (.type "list") isi_list := iaB_list
theorem ia_tuple (T : Txt K mg) : IsiA (LT T) (.type "tuple") isi_tuple := iaB_tuple
theorem ia_dict (T : Txt K mg) : IsiA (LT T) (.type "dict") isi_dict := iaB_dict
theorem ia_list_tuple (T : Txt K mg) : IsiAT (LT T) [.type "list", .type "tuple"] isi_list_tuple := iaB_list_tuple
theorem cz_LETTERS (T : Txt K mg) : ∃ t, mg (PySem.Str.ofString "LETTERS") = some (.str z_abcdefghijklmnopqrstuvwxyz t) := qz_abcdefghijklmnopqrstuvwxyz ▸ T.c_LETTERS
theorem cz_LONGEST_NAME (T : Txt K mg) : ∃ t, mg (PySem.Str.ofString "LONGEST_NAME") = some (.int 8 t) := T.c_LONGEST_NAME
theorem cz_MOST_CALLS (T : Txt K mg) : ∃ t, mg (PySem.Str.ofString "MOST_CALLS") = some (.int 60 t) := T.c_MOST_CALLS
theorem cz_MOST_STATES (T : Txt K mg) : ∃ t, mg (PySem.Str.ofString "MOST_STATES") = some (.int 8 t) := T.c_MOST_STATES
theorem cz_MOST_METHODS (T : Txt K mg) : ∃ t, mg (PySem.Str.ofString "MOST_METHODS") = some (.int 4 t) := T.c_MOST_METHODS
theorem cz_MOST_VALUES (T : Txt K mg) : ∃ t, mg (PySem.Str.ofString "MOST_VALUES") = some (.int 4 t) := T.c_MOST_VALUES
theorem cz_MOST_ANSWERS (T : Txt K mg) : ∃ t, mg (PySem.Str.ofString "MOST_ANSWERS") = some (.int 8 t) := T.c_MOST_ANSWERS
theorem nz_Kind_states (T : Txt K mg) : NoAttr K (T.ca 33) z_states := qz_states ▸ T.na_Kind_states
theorem nz_Kind_start (T : Txt K mg) : NoAttr K (T.ca 33) z_start := qz_start ▸ T.na_Kind_start
theorem nz_Kind__methods (T : Txt K mg) : NoAttr K (T.ca 33) z__methods := qz__methods ▸ T.na_Kind__methods
theorem nxz_BadKind_part (T : Txt K mg) : PySem.W.findIn K (.ref (T.ca 3)) z_part = some none := qz_part ▸ T.nx_BadKind_part
theorem nxz_NoMethod_method (T : Txt K mg) : PySem.W.findIn K (.ref (T.ca 4)) z_method = some none := qz_method ▸ T.nx_NoMethod_method
theorem nxz_NoState_state (T : Txt K mg) : PySem.W.findIn K (.ref (T.ca 5)) z_state = some none := qz_state ▸ T.nx_NoState_state
theorem nxz_NoArgument_argument (T : Txt K mg) : PySem.W.findIn K (.ref (T.ca 6)) z_argument = some none := qz_argument ▸ T.nx_NoArgument_argument
theorem nxz_BadCalls_index (T : Txt K mg) : PySem.W.findIn K (.ref (T.ca 9)) z_index = some none := qz_index ▸ T.nx_BadCalls_index
theorem ia_Kind (T : Txt K mg) : IsiA (LT T) (.ref (T.ca 33)) isi_Kind := fun k b e => by
  unfold isi_Kind at e
  split at e
  · rename_i hk
    cases e
    exact ⟨lt7 (Q := fun k => PySem.W.kitOne K (tyV (LT T) k) (.ref (T.ca 33)) = some false) (T.ki_Kind _ (by simp)) (T.ki_Kind _ (by simp)) (T.ki_Kind _ (by simp)) (T.ki_Kind _ (by simp)) (T.ki_Kind _ (by simp)) (T.ki_Kind _ (by simp)) (T.ki_Kind _ (by simp)) k hk, fun c hc => by omega⟩
  · split at e
    · rename_i hk
      cases e
      subst hk
      refine ⟨by unfold PySem.W.kitOne; rw [if_pos (by simp [tyV])], fun c hc => ?_⟩
      obtain rfl : c = 33 := by omega
      exact T.ob_Kind
    · cases e
theorem fl_states (T : Txt K mg) : ∀ c, okf_states c = true → Cls K ((LT T).CA c) ∧ NoAttr K ((LT T).CA c) z_states := fun c h => by
  have h : c = 33 := by simpa [okf_states] using h
  rcases h with rfl
  · exact ⟨T.cl_Kind, nz_Kind_states T⟩
theorem fl_start (T : Txt K mg) : ∀ c, okf_start c = true → Cls K ((LT T).CA c) ∧ NoAttr K ((LT T).CA c) z_start := fun c h => by
  have h : c = 33 := by simpa [okf_start] using h
  rcases h with rfl
  · exact ⟨T.cl_Kind, nz_Kind_start T⟩
theorem fl__methods (T : Txt K mg) : ∀ c, okf__methods c = true → Cls K ((LT T).CA c) ∧ NoAttr K ((LT T).CA c) z__methods := fun c h => by
  have h : c = 33 := by simpa [okf__methods] using h
  rcases h with rfl
  · exact ⟨T.cl_Kind, nz_Kind__methods T⟩
theorem xf_part (T : Txt K mg) : ∀ c, okx_part c = true → XfC K ((LT T).CA c) ∧ PySem.W.findIn K (.ref ((LT T).CA c)) z_part = some none := fun c h => by
  have h : c = 3 := by simpa [okx_part] using h
  rcases h with rfl
  · exact ⟨T.xf_BadKind, nxz_BadKind_part T⟩
theorem xf_method (T : Txt K mg) : ∀ c, okx_method c = true → XfC K ((LT T).CA c) ∧ PySem.W.findIn K (.ref ((LT T).CA c)) z_method = some none := fun c h => by
  have h : c = 4 := by simpa [okx_method] using h
  rcases h with rfl
  · exact ⟨T.xf_NoMethod, nxz_NoMethod_method T⟩
theorem xf_state (T : Txt K mg) : ∀ c, okx_state c = true → XfC K ((LT T).CA c) ∧ PySem.W.findIn K (.ref ((LT T).CA c)) z_state = some none := fun c h => by
  have h : c = 5 := by simpa [okx_state] using h
  rcases h with rfl
  · exact ⟨T.xf_NoState, nxz_NoState_state T⟩
theorem xf_argument (T : Txt K mg) : ∀ c, okx_argument c = true → XfC K ((LT T).CA c) ∧ PySem.W.findIn K (.ref ((LT T).CA c)) z_argument = some none := fun c h => by
  have h : c = 6 := by simpa [okx_argument] using h
  rcases h with rfl
  · exact ⟨T.xf_NoArgument, nxz_NoArgument_argument T⟩
theorem xf_index (T : Txt K mg) : ∀ c, okx_index c = true → XfC K ((LT T).CA c) ∧ PySem.W.findIn K (.ref ((LT T).CA c)) z_index = some none := fun c h => by
  have h : c = 9 := by simpa [okx_index] using h
  rcases h with rfl
  · exact ⟨T.xf_BadCalls, nxz_BadCalls_index T⟩
theorem ax_BadCalls (T : Txt K mg) : AnsX (LT T) (.ref (T.ca 9)) ans_BadCalls := fun k b h => by
  unfold ans_BadCalls at h
  split at h
  · rename_i hk; subst hk; cases h; exact T.em_BadKind_BadCalls
  split at h
  · rename_i hk; subst hk; cases h; exact T.em_NoMethod_BadCalls
  split at h
  · rename_i hk; subst hk; cases h; exact T.em_NoState_BadCalls
  split at h
  · rename_i hk; subst hk; cases h; exact T.em_NoArgument_BadCalls
  split at h
  · rename_i hk; subst hk; cases h; exact T.em_BadCalls_BadCalls
  cases h
theorem ax_TowerError (T : Txt K mg) : AnsX (LT T) (.ref (T.ca 0)) ans_TowerError := fun k b h => by
  unfold ans_TowerError at h
  split at h
  · rename_i hk; subst hk; cases h; exact T.em_BadKind_TowerError
  split at h
  · rename_i hk; subst hk; cases h; exact T.em_NoMethod_TowerError
  split at h
  · rename_i hk; subst hk; cases h; exact T.em_NoState_TowerError
  split at h
  · rename_i hk; subst hk; cases h; exact T.em_NoArgument_TowerError
  split at h
  · rename_i hk; subst hk; cases h; exact T.em_BadCalls_TowerError
  cases h
theorem sc_law_pool : FnScope [(PySem.Str.ofString "_law_script"), (PySem.Str.ofString "_law_seed"), (PySem.Str.ofString "_law_value")] [(PySem.Str.ofString "_law_script")] (defScope (top 32)) := ⟨rfl, rfl, rfl, by decide +kernel, rfl, by decide +kernel, by decide +kernel⟩
theorem bn_law_pool (T : Txt K mg) : Binds K (T.fd 0) [(PySem.Str.ofString "_law_script")] [] := T.F_law_pool.bindsN fun _ _ _ _ _ _ us hl => match us, hl with | [_], _ => rfl
theorem ok_law_pool (T : Txt K mg) : FnOk P w K mg base (L2.CX P w) 1 (T.ad 0) (T.fd 0) [(PySem.Str.ofString "_law_script")] (spPool K) := fokPool (k := 0) T.F_law_pool sc_law_pool rfl rfl (fun cdv A outer s H E => pss_cons (ps_set sc_law_pool.nd (i := 1) rfl (by first | exact Or.inl rfl | exact Or.inr rfl) pe_int) (pss_cons (ps_for (passes_of rfl) rfl (pi_list (pe_slice sl_list (pv 0) po_none (po_some pe_int))) (pg_name sc_law_pool.nd (i := 2) rfl (by first | exact Or.inl rfl | exact Or.inr rfl)) (pss_one (ps_set sc_law_pool.nd (i := 1) rfl (by first | exact Or.inl rfl | exact Or.inr rfl) (pe_op op_mod (pe_callTy call_int1 rfl T.n_int bt_int (pa_cons (pe_op op_add (pe_op op_add (pe_op op_mul (pv 1) pe_int) (pv 2)) pe_int) pa_nil)) pe_int)))) (pss_one (ps_ret (pe_lst (pa_cons (pe_frz (pe_callTy call_list_of rfl T.n_list bt_list (pa_cons (pe_slice sl_list (pv 0) po_none (po_some pe_int)) pa_nil))) (pa_cons pe_int (pa_cons pe_int (pa_cons pe_int (pa_cons (pv 1) pa_nil))))))))))
theorem sc_law_draw : FnScope [(PySem.Str.ofString "_law_pool_here"), (PySem.Str.ofString "_law_many"), (PySem.Str.ofString "_law_value"), (PySem.Str.ofString "_law_digit"), (PySem.Str.ofString "_law_number")] [(PySem.Str.ofString "_law_pool_here"), (PySem.Str.ofString "_law_many")] (defScope (top 33)) := ⟨rfl, rfl, rfl, by decide +kernel, rfl, by decide +kernel, by decide +kernel⟩
theorem bn_law_draw (T : Txt K mg) : BnD K (LT T) (T.fd 1) [(PySem.Str.ofString "_law_pool_here"), (PySem.Str.ofString "_law_many")] 2 [] (fun ds _ => ds) := bn_all (T.F_law_draw.bindsN fun _ _ _ _ _ _ us hl => match us, hl with | [_, _], _ => rfl)
theorem ok_law_draw (T : Txt K mg) : FnOk P w K mg base (L2.CX P w) 1 (T.ad 1) (T.fd 1) [(PySem.Str.ofString "_law_pool_here"), (PySem.Str.ofString "_law_many")] (spD (LT T) 2 m_law_draw) := fokDraw (k := 0) T.F_law_draw sc_law_draw rfl rfl rfl (fun cdv A outer s H E hr => (pss_cons (ps_asg (pe_op op_add (pe_ix ix_seq (pv 0) pe_int (fun _ _ => rfl)) pe_int) (pg_sub (pv 0) pe_int set_list)) (pss_cons (ps_if (PW.pt (pw_and (pt_cmpR op_eq (pe_ix ix_seq (pv 0) pe_int (fun _ _ => rfl)) pe_int rfl) (pw_and1 (pt_cmpR op_lt (pe_ix ix_seq (pv 0) pe_int (fun _ _ => rfl)) (pe_callB call_len rfl T.n_len bt_len (pa_cons (pe_ix ix_seq (pv 0) pe_int (fun _ _ => rfl)) pa_nil)) rfl)))) (pss_cons (ps_set sc_law_draw.nd (i := 2) rfl (by first | exact Or.inl rfl | exact Or.inr rfl) (pe_ix ix_seq (pe_ix ix_seq (pv 0) pe_int (fun _ _ => rfl)) (pe_ix ix_seq (pv 0) pe_int (fun _ _ => rfl)) (fun _ _ => rfl))) (pss_cons (ps_asg (pe_op op_add (pe_ix ix_seq (pv 0) pe_int (fun _ _ => rfl)) pe_int) (pg_sub (pv 0) pe_int set_list)) (pss_one (ps_if (pt_cmpR op_ge (pv 2) (pe_op op_pow pe_int pe_int) rfl) (pss_one (ps_asg (pv 2) (pg_sub (pv 0) pe_int set_list))) (pss_one (ps_asg (pe_op op_mod (pe_callTy call_int1 rfl T.n_int bt_int (pa_cons (pe_op op_add (pe_op op_add (pe_op op_mul (pe_ix ix_seq (pv 0) pe_int (fun _ _ => rfl)) pe_int) (pv 2)) pe_int) pa_nil)) pe_int) (pg_sub (pv 0) pe_int set_list))))))) pss_nil) (pss_cons (ps_if (pt_cmpR op_gt (pe_ix ix_seq (pv 0) pe_int (fun _ _ => rfl)) pe_int rfl) (pss_cons (ps_set sc_law_draw.nd (i := 3) rfl (by first | exact Or.inl rfl | exact Or.inr rfl) (pe_op op_mod (pe_callTy call_int1 rfl T.n_int bt_int (pa_cons (pe_ix ix_seq (pv 0) pe_int (fun _ _ => rfl)) pa_nil)) (pv 1))) (pss_cons (ps_asg (pe_op op_fdiv (pe_ix ix_seq (pv 0) pe_int (fun _ _ => rfl)) (pv 1)) (pg_sub (pv 0) pe_int set_list)) (pss_one (ps_ret (pv 3))))) pss_nil) (pss_cons (ps_set sc_law_draw.nd (i := 4) rfl (by first | exact Or.inl rfl | exact Or.inr rfl) (pe_op op_mod (pe_callTy call_int1 rfl T.n_int bt_int (pa_cons (pe_op op_add (pe_op op_add (pe_op op_mul (pe_ix ix_seq (pv 0) pe_int (fun _ _ => rfl)) pe_int) (pe_op op_mul (pe_ix ix_seq (pv 0) pe_int (fun _ _ => rfl)) pe_int)) pe_int) pa_nil)) pe_int)) (pss_cons (ps_set sc_law_draw.nd (i := 4) rfl (by first | exact Or.inl rfl | exact Or.inr rfl) (pe_op op_mod (pe_callTy call_int1 rfl T.n_int bt_int (pa_cons (pe_op op_mul (pv 4) (pe_op op_add (pe_op op_fdiv (pv 4) pe_int) pe_int)) pa_nil)) pe_int)) (pss_cons (ps_set sc_law_draw.nd (i := 4) rfl (by first | exact Or.inl rfl | exact Or.inr rfl) (pe_op op_mod (pe_callTy call_int1 rfl T.n_int bt_int (pa_cons (pe_op op_mul (pv 4) (pe_op op_add (pe_op op_fdiv (pv 4) pe_int) pe_int)) pa_nil)) pe_int)) (pss_one (ps_ret (pe_op op_mod (pe_callTy call_int1 rfl T.n_int bt_int (pa_cons (pe_op op_fdiv (pv 4) pe_int) pa_nil)) (pv 1)))))))))))
theorem sc_law_names : FnScope [(PySem.Str.ofString "_law_pool_here"), (PySem.Str.ofString "_law_many"), (PySem.Str.ofString "_law_letters"), (PySem.Str.ofString "_law_names_here"), (PySem.Str.ofString "_law_k"), (PySem.Str.ofString "_law_size"), (PySem.Str.ofString "_law_name"), (PySem.Str.ofString "_law_at"), (PySem.Str.ofString "_law_letter")] [(PySem.Str.ofString "_law_pool_here"), (PySem.Str.ofString "_law_many")] (defScope (top 34)) := ⟨rfl, rfl, rfl, by decide +kernel, rfl, by decide +kernel, by decide +kernel⟩
theorem bn_law_names (T : Txt K mg) : BnD K (LT T) (T.fd 2) [(PySem.Str.ofString "_law_pool_here"), (PySem.Str.ofString "_law_many")] 2 [] (fun ds _ => ds) := bn_all (T.F_law_names.bindsN fun _ _ _ _ _ _ us hl => match us, hl with | [_, _], _ => rfl)
theorem ok_law_names (T : Txt K mg) : FnOk P w K mg base (L2.CX P w) 2 (T.ad 2) (T.fd 2) [(PySem.Str.ofString "_law_pool_here"), (PySem.Str.ofString "_law_many")] (spD (LT T) 2 m_law_names) := by
  refine fok T.F_law_names sc_law_names rfl (fun cdv A outer s H E hr => ?_)
  have tk : L2.Takes (cxOf (L2.CX P w) P w K mg base [(PySem.Str.ofString "_law_pool_here"), (PySem.Str.ofString "_law_many"), (PySem.Str.ofString "_law_letters"), (PySem.Str.ofString "_law_names_here"), (PySem.Str.ofString "_law_k"), (PySem.Str.ofString "_law_size"), (PySem.Str.ofString "_law_name"), (PySem.Str.ofString "_law_at"), (PySem.Str.ofString "_law_letter")] (PySem.Str.ofString "_law_names") (defScope (top 34)) (T.ad 2) cdv A outer s H E) (fun c dd _ H => E c dd H) := takes_of rfl rfl rfl rfl
  have po : PassesOwn (model P w) (cxOf (L2.CX P w) P w K mg base [(PySem.Str.ofString "_law_pool_here"), (PySem.Str.ofString "_law_many"), (PySem.Str.ofString "_law_letters"), (PySem.Str.ofString "_law_names_here"), (PySem.Str.ofString "_law_k"), (PySem.Str.ofString "_law_size"), (PySem.Str.ofString "_law_name"), (PySem.Str.ofString "_law_at"), (PySem.Str.ofString "_law_letter")] (PySem.Str.ofString "_law_names") (defScope (top 34)) (T.ad 2) cdv A outer s H E).A (cxOf (L2.CX P w) P w K mg base [(PySem.Str.ofString "_law_pool_here"), (PySem.Str.ofString "_law_many"), (PySem.Str.ofString "_law_letters"), (PySem.Str.ofString "_law_names_here"), (PySem.Str.ofString "_law_k"), (PySem.Str.ofString "_law_size"), (PySem.Str.ofString "_law_name"), (PySem.Str.ofString "_law_at"), (PySem.Str.ofString "_law_letter")] (PySem.Str.ofString "_law_names") (defScope (top 34)) (T.ad 2) cdv A outer s H E).env (cxOf (L2.CX P w) P w K mg base [(PySem.Str.ofString "_law_pool_here"), (PySem.Str.ofString "_law_many"), (PySem.Str.ofString "_law_letters"), (PySem.Str.ofString "_law_names_here"), (PySem.Str.ofString "_law_k"), (PySem.Str.ofString "_law_size"), (PySem.Str.ofString "_law_name"), (PySem.Str.ofString "_law_at"), (PySem.Str.ofString "_law_letter")] (PySem.Str.ofString "_law_names") (defScope (top 34)) (T.ad 2) cdv A outer s H E).xe := passes_of rfl
  exact (ss_cons (s_set sc_law_names.nd (i := 2) rfl (by first | exact Or.inl rfl | exact Or.inr rfl) (d_strL qz_abcdefghijklmnopqrstuvwxyz))
  (ss_cons (s_new sc_law_names.nd (i := 3) rfl (by first | exact Or.inl rfl | exact Or.inr rfl) (f_lst a_nil))
  (ss_cons (s_for po rfl (i_rng1 rfl T.n_range (a_cons (d_v (pv 1)) a_nil)) (g_name (pg_name sc_law_names.nd (i := 4) rfl (by first | exact Or.inl rfl | exact Or.inr rfl))) (ss_cons (s_set sc_law_names.nd (i := 5) rfl (by first | exact Or.inl rfl | exact Or.inr rfl) (d_ix hr.units (d_fz (f_lst (a_cons d_int (a_cons d_int (a_cons d_int (a_cons d_int a_nil)))))) (p_e (d_call (ks := []) (ok_law_draw T) (hr.mono (by decide)) tk rfl T.g__law_draw T.F_law_draw.kp (bn_law_draw T) (cl_a (a_cons (d_v (pv 0)) (a_cons d_int a_nil)))))))
  (ss_cons (s_set sc_law_names.nd (i := 6) rfl (by first | exact Or.inl rfl | exact Or.inr rfl) (d_join (d_strL qzh_) (d_fz (f_lc rfl sc_law_names.nd (i_rng1 rfl T.n_range (a_cons (d_v (pv 5)) a_nil)) (own := [((PySem.Str.ofString "_law_at"), 7)]) (by first | rfl | kernel_rfl) (by decide) (fun _ _ _ _ _ => (g_name (pg_name sc_law_names.nd (i := 7) rfl (by first | exact Or.inl rfl | exact Or.inr rfl)))) (fun _ _ _ _ _ => ts_nil) (fun _ _ _ _ _ => (d_ix hr.units (d_v (pv 2)) (p_e (d_call (ks := []) (ok_law_draw T) (hr.mono (by decide)) takes0 rfl T.g__law_draw T.F_law_draw.kp (bn_law_draw T) (cl_a (a_cons (d_v (pv 0)) (a_cons d_int a_nil)))))))))))
  (ss_cons (s_if (t_cmpQ (op_inO hr.units) (p_q (q_v (pv 6))) (q_v (pv 3))) (ss_one (s_set sc_law_names.nd (i := 6) rfl (by first | exact Or.inl rfl | exact Or.inr rfl) (d_ixQ hr.units (p_e (d_fz (f_lc rfl sc_law_names.nd (i_val (d_v (pv 2))) (own := [((PySem.Str.ofString "_law_letter"), 8)]) (by first | rfl | kernel_rfl) (by decide) (fun _ _ _ _ _ => (g_name (pg_name sc_law_names.nd (i := 8) rfl (by first | exact Or.inl rfl | exact Or.inr rfl)))) (fun _ _ _ _ _ => (ts_one (t_cmpQ (op_notInO hr.units) (p_q (q_v (pv 8))) (q_v (pv 3))))) (fun _ _ _ _ _ => (d_v (pv 8)))))) q_int))) ss_nil)
  (ss_one (s_expr (d_append (pv 3) (a_cons (d_v (pv 6)) a_nil))))))))
  (ss_one (s_ret (d_v (pv 3)))))))
theorem sc_law_answers : FnScope [(PySem.Str.ofString "_law_pool_here"), (PySem.Str.ofString "_law_states"), (PySem.Str.ofString "_law_results"), (PySem.Str.ofString "_law_total"), (PySem.Str.ofString "_law_count"), (PySem.Str.ofString "_law_found"), (PySem.Str.ofString "_law_k"), (PySem.Str.ofString "_law_answer")] [(PySem.Str.ofString "_law_pool_here"), (PySem.Str.ofString "_law_states"), (PySem.Str.ofString "_law_results"), (PySem.Str.ofString "_law_total")] (defScope (top 35)) := ⟨rfl, rfl, rfl, by decide +kernel, rfl, by decide +kernel, by decide +kernel⟩
theorem bn_law_answers (T : Txt K mg) : BnD K (LT T) (T.fd 3) [(PySem.Str.ofString "_law_pool_here"), (PySem.Str.ofString "_law_states"), (PySem.Str.ofString "_law_results"), (PySem.Str.ofString "_law_total")] 4 [] (fun ds _ => ds) := bn_all (T.F_law_answers.bindsN fun _ _ _ _ _ _ us hl => match us, hl with | [_, _, _, _], _ => rfl)
theorem ok_law_answers (T : Txt K mg) : FnOk P w K mg base (L2.CX P w) 2 (T.ad 3) (T.fd 3) [(PySem.Str.ofString "_law_pool_here"), (PySem.Str.ofString "_law_states"), (PySem.Str.ofString "_law_results"), (PySem.Str.ofString "_law_total")] (spD (LT T) 4 m_law_answers) := by
  refine fok T.F_law_answers sc_law_answers rfl (fun cdv A outer s H E hr => ?_)
  have tk : L2.Takes (cxOf (L2.CX P w) P w K mg base [(PySem.Str.ofString "_law_pool_here"), (PySem.Str.ofString "_law_states"), (PySem.Str.ofString "_law_results"), (PySem.Str.ofString "_law_total"), (PySem.Str.ofString "_law_count"), (PySem.Str.ofString "_law_found"), (PySem.Str.ofString "_law_k"), (PySem.Str.ofString "_law_answer")] (PySem.Str.ofString "_law_answers") (defScope (top 35)) (T.ad 3) cdv A outer s H E) (fun c dd _ H => E c dd H) := takes_of rfl rfl rfl rfl
  have po : PassesOwn (model P w) (cxOf (L2.CX P w) P w K mg base [(PySem.Str.ofString "_law_pool_here"), (PySem.Str.ofString "_law_states"), (PySem.Str.ofString "_law_results"), (PySem.Str.ofString "_law_total"), (PySem.Str.ofString "_law_count"), (PySem.Str.ofString "_law_found"), (PySem.Str.ofString "_law_k"), (PySem.Str.ofString "_law_answer")] (PySem.Str.ofString "_law_answers") (defScope (top 35)) (T.ad 3) cdv A outer s H E).A (cxOf (L2.CX P w) P w K mg base [(PySem.Str.ofString "_law_pool_here"), (PySem.Str.ofString "_law_states"), (PySem.Str.ofString "_law_results"), (PySem.Str.ofString "_law_total"), (PySem.Str.ofString "_law_count"), (PySem.Str.ofString "_law_found"), (PySem.Str.ofString "_law_k"), (PySem.Str.ofString "_law_answer")] (PySem.Str.ofString "_law_answers") (defScope (top 35)) (T.ad 3) cdv A outer s H E).env (cxOf (L2.CX P w) P w K mg base [(PySem.Str.ofString "_law_pool_here"), (PySem.Str.ofString "_law_states"), (PySem.Str.ofString "_law_results"), (PySem.Str.ofString "_law_total"), (PySem.Str.ofString "_law_count"), (PySem.Str.ofString "_law_found"), (PySem.Str.ofString "_law_k"), (PySem.Str.ofString "_law_answer")] (PySem.Str.ofString "_law_answers") (defScope (top 35)) (T.ad 3) cdv A outer s H E).xe := passes_of rfl
  exact (ss_cons (s_set sc_law_answers.nd (i := 4) rfl (by first | exact Or.inl rfl | exact Or.inr rfl) (d_ix hr.units (d_fz (f_lst (a_cons d_int (a_cons d_int (a_cons d_int (a_cons d_int (a_cons d_int (a_cons d_int (a_cons d_int (a_cons d_int a_nil)))))))))) (p_e (d_call (ks := []) (ok_law_draw T) (hr.mono (by decide)) tk rfl T.g__law_draw T.F_law_draw.kp (bn_law_draw T) (cl_a (a_cons (d_v (pv 0)) (a_cons d_int a_nil)))))))
  (ss_cons (s_new sc_law_answers.nd (i := 5) rfl (by first | exact Or.inl rfl | exact Or.inr rfl) (f_lst a_nil))
  (ss_cons (s_for po rfl (i_rng1 rfl T.n_range (a_cons (d_b2 (max2_D rfl) rfl T.n_max bt_max (d_v (pv 4)) (d_t1 int_D rfl T.n_int bt_int (p_q (q_v (pv 3))))) a_nil)) (g_name (pg_name sc_law_answers.nd (i := 6) rfl (by first | exact Or.inl rfl | exact Or.inr rfl))) (ss_cons (s_set sc_law_answers.nd (i := 7) rfl (by first | exact Or.inl rfl | exact Or.inr rfl) (d_tup (a_cons (d_call (ks := []) (ok_law_draw T) (hr.mono (by decide)) tk rfl T.g__law_draw T.F_law_draw.kp (bn_law_draw T) (cl_a (a_cons (d_v (pv 0)) (a_cons (d_v (pv 2)) a_nil)))) (a_cons (d_call (ks := []) (ok_law_draw T) (hr.mono (by decide)) tk rfl T.g__law_draw T.F_law_draw.kp (bn_law_draw T) (cl_a (a_cons (d_v (pv 0)) (a_cons (d_v (pv 1)) a_nil)))) a_nil))))
  (ss_one (s_if (t_cmpQ (op_notInO hr.units) (p_q (q_v (pv 7))) (q_v (pv 5))) (ss_one (s_expr (d_append (pv 5) (a_cons (d_v (pv 7)) a_nil)))) ss_nil))))
  (ss_one (s_ret (d_fz (f_b1 (sorted_D hr.units) rfl T.n_sorted bt_sorted (p_q (q_v (pv 5))))))))))
theorem sc_law_method : FnScope [(PySem.Str.ofString "_law_pool_here"), (PySem.Str.ofString "_law_states"), (PySem.Str.ofString "_law_total"), (PySem.Str.ofString "_law_arguments"), (PySem.Str.ofString "_law_results"), (PySem.Str.ofString "_law_rows"), (PySem.Str.ofString "_law_state"), (PySem.Str.ofString "_law_argument")] [(PySem.Str.ofString "_law_pool_here"), (PySem.Str.ofString "_law_states"), (PySem.Str.ofString "_law_total")] (defScope (top 36)) := ⟨rfl, rfl, rfl, by decide +kernel, rfl, by decide +kernel, by decide +kernel⟩
theorem bn_law_method (T : Txt K mg) : BnD K (LT T) (T.fd 4) [(PySem.Str.ofString "_law_pool_here"), (PySem.Str.ofString "_law_states"), (PySem.Str.ofString "_law_total")] 3 [] (fun ds _ => ds) := bn_all (T.F_law_method.bindsN fun _ _ _ _ _ _ us hl => match us, hl with | [_, _, _], _ => rfl)
theorem ok_law_method (T : Txt K mg) : FnOk P w K mg base (L2.CX P w) 3 (T.ad 4) (T.fd 4) [(PySem.Str.ofString "_law_pool_here"), (PySem.Str.ofString "_law_states"), (PySem.Str.ofString "_law_total")] (spD (LT T) 3 m_law_method) := by
  refine fok T.F_law_method sc_law_method rfl (fun cdv A outer s H E hr => ?_)
  have tk : L2.Takes (cxOf (L2.CX P w) P w K mg base [(PySem.Str.ofString "_law_pool_here"), (PySem.Str.ofString "_law_states"), (PySem.Str.ofString "_law_total"), (PySem.Str.ofString "_law_arguments"), (PySem.Str.ofString "_law_results"), (PySem.Str.ofString "_law_rows"), (PySem.Str.ofString "_law_state"), (PySem.Str.ofString "_law_argument")] (PySem.Str.ofString "_law_method") (defScope (top 36)) (T.ad 4) cdv A outer s H E) (fun c dd _ H => E c dd H) := takes_of rfl rfl rfl rfl
  have po : PassesOwn (model P w) (cxOf (L2.CX P w) P w K mg base [(PySem.Str.ofString "_law_pool_here"), (PySem.Str.ofString "_law_states"), (PySem.Str.ofString "_law_total"), (PySem.Str.ofString "_law_arguments"), (PySem.Str.ofString "_law_results"), (PySem.Str.ofString "_law_rows"), (PySem.Str.ofString "_law_state"), (PySem.Str.ofString "_law_argument")] (PySem.Str.ofString "_law_method") (defScope (top 36)) (T.ad 4) cdv A outer s H E).A (cxOf (L2.CX P w) P w K mg base [(PySem.Str.ofString "_law_pool_here"), (PySem.Str.ofString "_law_states"), (PySem.Str.ofString "_law_total"), (PySem.Str.ofString "_law_arguments"), (PySem.Str.ofString "_law_results"), (PySem.Str.ofString "_law_rows"), (PySem.Str.ofString "_law_state"), (PySem.Str.ofString "_law_argument")] (PySem.Str.ofString "_law_method") (defScope (top 36)) (T.ad 4) cdv A outer s H E).env (cxOf (L2.CX P w) P w K mg base [(PySem.Str.ofString "_law_pool_here"), (PySem.Str.ofString "_law_states"), (PySem.Str.ofString "_law_total"), (PySem.Str.ofString "_law_arguments"), (PySem.Str.ofString "_law_results"), (PySem.Str.ofString "_law_rows"), (PySem.Str.ofString "_law_state"), (PySem.Str.ofString "_law_argument")] (PySem.Str.ofString "_law_method") (defScope (top 36)) (T.ad 4) cdv A outer s H E).xe := passes_of rfl
  exact (ss_cons (s_set sc_law_method.nd (i := 3) rfl (by first | exact Or.inl rfl | exact Or.inr rfl) (d_ix hr.units (d_fz (f_lst (a_cons d_int (a_cons d_int (a_cons d_int (a_cons d_int (a_cons d_int a_nil))))))) (p_e (d_call (ks := []) (ok_law_draw T) (hr.mono (by decide)) tk rfl T.g__law_draw T.F_law_draw.kp (bn_law_draw T) (cl_a (a_cons (d_v (pv 0)) (a_cons d_int a_nil)))))))
  (ss_cons (s_set sc_law_method.nd (i := 4) rfl (by first | exact Or.inl rfl | exact Or.inr rfl) (d_ix hr.units (d_fz (f_lst (a_cons d_int (a_cons d_int (a_cons d_int (a_cons d_int (a_cons d_int a_nil))))))) (p_e (d_call (ks := []) (ok_law_draw T) (hr.mono (by decide)) tk rfl T.g__law_draw T.F_law_draw.kp (bn_law_draw T) (cl_a (a_cons (d_v (pv 0)) (a_cons d_int a_nil)))))))
  (ss_cons (s_new sc_law_method.nd (i := 5) rfl (by first | exact Or.inl rfl | exact Or.inr rfl) (f_lst a_nil))
  (ss_cons (s_for po rfl (i_rng1 rfl T.n_range (a_cons (d_v (pv 1)) a_nil)) (g_name (pg_name sc_law_method.nd (i := 6) rfl (by first | exact Or.inl rfl | exact Or.inr rfl))) (ss_one (s_expr (d_append (pv 5) (a_cons (d_fz (f_lc rfl sc_law_method.nd (i_rng1 rfl T.n_range (a_cons (d_v (pv 3)) a_nil)) (own := [((PySem.Str.ofString "_law_argument"), 7)]) (by first | rfl | kernel_rfl) (by decide) (fun _ _ _ _ _ => (g_name (pg_name sc_law_method.nd (i := 7) rfl (by first | exact Or.inl rfl | exact Or.inr rfl)))) (fun _ _ _ _ _ => ts_nil) (fun _ _ _ _ _ => (d_call (ks := []) (ok_law_answers T) (hr.mono (by decide)) takes0 rfl T.g__law_answers T.F_law_answers.kp (bn_law_answers T) (cl_a (a_cons (d_v (pv 0)) (a_cons (d_v (pv 1)) (a_cons (d_v (pv 4)) (a_cons (d_v (pv 2)) a_nil))))))))) a_nil)))))
  (ss_one (s_ret (d_tup (a_cons (d_v (pv 3)) (a_cons (d_v (pv 4)) (a_cons (d_v (pv 5)) a_nil))))))))))
theorem sc_law_model : FnScope [(PySem.Str.ofString "_law_pool_here"), (PySem.Str.ofString "_law_total"), (PySem.Str.ofString "_law_most"), (PySem.Str.ofString "_law_states"), (PySem.Str.ofString "_law_methods"), (PySem.Str.ofString "_law_name")] [(PySem.Str.ofString "_law_pool_here"), (PySem.Str.ofString "_law_total"), (PySem.Str.ofString "_law_most")] (defScope (top 37)) := ⟨rfl, rfl, rfl, by decide +kernel, rfl, by decide +kernel, by decide +kernel⟩
theorem bn_law_model (T : Txt K mg) : BnD K (LT T) (T.fd 5) [(PySem.Str.ofString "_law_pool_here"), (PySem.Str.ofString "_law_total"), (PySem.Str.ofString "_law_most")] 3 [] (fun ds _ => ds) := bn_all (T.F_law_model.bindsN fun _ _ _ _ _ _ us hl => match us, hl with | [_, _, _], _ => rfl)
theorem ok_law_model (T : Txt K mg) : FnOk P w K mg base (L2.CX P w) 4 (T.ad 5) (T.fd 5) [(PySem.Str.ofString "_law_pool_here"), (PySem.Str.ofString "_law_total"), (PySem.Str.ofString "_law_most")] (spD (LT T) 3 m_law_model) := by
  refine fok T.F_law_model sc_law_model rfl (fun cdv A outer s H E hr => ?_)
  have tk : L2.Takes (cxOf (L2.CX P w) P w K mg base [(PySem.Str.ofString "_law_pool_here"), (PySem.Str.ofString "_law_total"), (PySem.Str.ofString "_law_most"), (PySem.Str.ofString "_law_states"), (PySem.Str.ofString "_law_methods"), (PySem.Str.ofString "_law_name")] (PySem.Str.ofString "_law_model") (defScope (top 37)) (T.ad 5) cdv A outer s H E) (fun c dd _ H => E c dd H) := takes_of rfl rfl rfl rfl
  have po : PassesOwn (model P w) (cxOf (L2.CX P w) P w K mg base [(PySem.Str.ofString "_law_pool_here"), (PySem.Str.ofString "_law_total"), (PySem.Str.ofString "_law_most"), (PySem.Str.ofString "_law_states"), (PySem.Str.ofString "_law_methods"), (PySem.Str.ofString "_law_name")] (PySem.Str.ofString "_law_model") (defScope (top 37)) (T.ad 5) cdv A outer s H E).A (cxOf (L2.CX P w) P w K mg base [(PySem.Str.ofString "_law_pool_here"), (PySem.Str.ofString "_law_total"), (PySem.Str.ofString "_law_most"), (PySem.Str.ofString "_law_states"), (PySem.Str.ofString "_law_methods"), (PySem.Str.ofString "_law_name")] (PySem.Str.ofString "_law_model") (defScope (top 37)) (T.ad 5) cdv A outer s H E).env (cxOf (L2.CX P w) P w K mg base [(PySem.Str.ofString "_law_pool_here"), (PySem.Str.ofString "_law_total"), (PySem.Str.ofString "_law_most"), (PySem.Str.ofString "_law_states"), (PySem.Str.ofString "_law_methods"), (PySem.Str.ofString "_law_name")] (PySem.Str.ofString "_law_model") (defScope (top 37)) (T.ad 5) cdv A outer s H E).xe := passes_of rfl
  exact (ss_cons (s_set sc_law_model.nd (i := 3) rfl (by first | exact Or.inl rfl | exact Or.inr rfl) (d_ix hr.units (d_fz (f_lst (a_cons d_int (a_cons d_int (a_cons d_int (a_cons d_int (a_cons d_int (a_cons d_int a_nil)))))))) (p_e (d_call (ks := []) (ok_law_draw T) (hr.mono (by decide)) tk rfl T.g__law_draw T.F_law_draw.kp (bn_law_draw T) (cl_a (a_cons (d_v (pv 0)) (a_cons d_int a_nil)))))))
  (ss_cons (s_new sc_law_model.nd (i := 4) rfl (by first | exact Or.inl rfl | exact Or.inr rfl) f_dctK)
  (ss_cons (s_for po rfl (i_val (d_call (ks := []) (ok_law_names T) (hr.mono (by decide)) tk rfl T.g__law_names T.F_law_names.kp (bn_law_names T) (cl_a (a_cons (d_v (pv 0)) (a_cons (d_bin op_addO d_int (p_e (d_call (ks := []) (ok_law_draw T) (hr.mono (by decide)) tk rfl T.g__law_draw T.F_law_draw.kp (bn_law_draw T) (cl_a (a_cons (d_v (pv 0)) (a_cons (d_v (pv 2)) a_nil)))))) a_nil))))) (g_name (pg_name sc_law_model.nd (i := 5) rfl (by first | exact Or.inl rfl | exact Or.inr rfl))) (ss_one (s_put (ru1 hr) (pv 4) (d_v (pv 5)) (d_call (ks := []) (ok_law_method T) (hr.mono (by decide)) tk rfl T.g__law_method T.F_law_method.kp (bn_law_method T) (cl_a (a_cons (d_v (pv 0)) (a_cons (d_v (pv 3)) (a_cons (d_v (pv 1)) a_nil))))))))
  (ss_one (s_ret (d_fz (f_lst (a_cons (d_v (pv 3)) (a_cons (d_call (ks := []) (ok_law_draw T) (hr.mono (by decide)) tk rfl T.g__law_draw T.F_law_draw.kp (bn_law_draw T) (cl_a (a_cons (d_v (pv 0)) (a_cons (d_v (pv 3)) a_nil)))) (a_cons (d_v (pv 4)) a_nil))))))))))
theorem sc_is_integer : FnScope [(PySem.Str.ofString "value")] [(PySem.Str.ofString "value")] (defScope (top 11)) := ⟨rfl, rfl, rfl, by decide +kernel, rfl, by decide +kernel, by decide +kernel⟩
theorem bn_is_integer (T : Txt K mg) : BnD K (LT T) (T.fd 6) [(PySem.Str.ofString "value")] 1 [] (fun ds _ => ds) := bn_all (T.F_is_integer.bindsN fun _ _ _ _ _ _ us hl => match us, hl with | [_], _ => rfl)
theorem ok_is_integer (T : Txt K mg) : FnOk P w K mg base (L2.CX P w) 1 (T.ad 6) (T.fd 6) [(PySem.Str.ofString "value")] (spD (LT T) 1 m_is_integer) := by
  refine fok T.F_is_integer sc_is_integer rfl (fun cdv A outer s H E hr => ?_)
  have tk : L2.Takes (cxOf (L2.CX P w) P w K mg base [(PySem.Str.ofString "value")] (PySem.Str.ofString "is_integer") (defScope (top 11)) (T.ad 6) cdv A outer s H E) (fun c dd _ H => E c dd H) := takes_of rfl rfl rfl rfl
  have po : PassesOwn (model P w) (cxOf (L2.CX P w) P w K mg base [(PySem.Str.ofString "value")] (PySem.Str.ofString "is_integer") (defScope (top 11)) (T.ad 6) cdv A outer s H E).A (cxOf (L2.CX P w) P w K mg base [(PySem.Str.ofString "value")] (PySem.Str.ofString "is_integer") (defScope (top 11)) (T.ad 6) cdv A outer s H E).env (cxOf (L2.CX P w) P w K mg base [(PySem.Str.ofString "value")] (PySem.Str.ofString "is_integer") (defScope (top 11)) (T.ad 6) cdv A outer s H E).xe := passes_of rfl
  exact (ss_one (s_ret (d_and (d_isi (.ty _) (ia_int T) rfl T.n_isinstance bt_isinstance (p_q (q_v (pv 0))) (pe_bltn rfl T.n_int bt_int rfl)) (d_one (d_not (d_isi (.ty _) (ia_bool T) rfl T.n_isinstance bt_isinstance (p_q (q_v (pv 0))) (pe_bltn rfl T.n_bool bt_bool rfl)))))))
theorem sc_is_between : FnScope [(PySem.Str.ofString "value"), (PySem.Str.ofString "low"), (PySem.Str.ofString "high")] [(PySem.Str.ofString "value"), (PySem.Str.ofString "low"), (PySem.Str.ofString "high")] (defScope (top 12)) := ⟨rfl, rfl, rfl, by decide +kernel, rfl, by decide +kernel, by decide +kernel⟩
theorem bn_is_between (T : Txt K mg) : BnD K (LT T) (T.fd 7) [(PySem.Str.ofString "value"), (PySem.Str.ofString "low"), (PySem.Str.ofString "high")] 3 [] (fun ds _ => ds) := bn_all (T.F_is_between.bindsN fun _ _ _ _ _ _ us hl => match us, hl with | [_, _, _], _ => rfl)
theorem ok_is_between (T : Txt K mg) : FnOk P w K mg base (L2.CX P w) 2 (T.ad 7) (T.fd 7) [(PySem.Str.ofString "value"), (PySem.Str.ofString "low"), (PySem.Str.ofString "high")] (spD (LT T) 3 m_is_between) := by
  refine fok T.F_is_between sc_is_between rfl (fun cdv A outer s H E hr => ?_)
  have tk : L2.Takes (cxOf (L2.CX P w) P w K mg base [(PySem.Str.ofString "value"), (PySem.Str.ofString "low"), (PySem.Str.ofString "high")] (PySem.Str.ofString "is_between") (defScope (top 12)) (T.ad 7) cdv A outer s H E) (fun c dd _ H => E c dd H) := takes_of rfl rfl rfl rfl
  have po : PassesOwn (model P w) (cxOf (L2.CX P w) P w K mg base [(PySem.Str.ofString "value"), (PySem.Str.ofString "low"), (PySem.Str.ofString "high")] (PySem.Str.ofString "is_between") (defScope (top 12)) (T.ad 7) cdv A outer s H E).A (cxOf (L2.CX P w) P w K mg base [(PySem.Str.ofString "value"), (PySem.Str.ofString "low"), (PySem.Str.ofString "high")] (PySem.Str.ofString "is_between") (defScope (top 12)) (T.ad 7) cdv A outer s H E).env (cxOf (L2.CX P w) P w K mg base [(PySem.Str.ofString "value"), (PySem.Str.ofString "low"), (PySem.Str.ofString "high")] (PySem.Str.ofString "is_between") (defScope (top 12)) (T.ad 7) cdv A outer s H E).xe := passes_of rfl
  exact (ss_one (s_ret (d_and (d_call (ks := []) (ok_is_integer T) (hr.mono (by decide)) tk rfl T.g_is_integer T.F_is_integer.kp (bn_is_integer T) (cl_a (a_cons (d_v (pv 0)) a_nil))) (d_one (d_chain op_leO op_leO ord_bl (d_v (pv 1)) (d_v (pv 0)) (p_q (q_v (pv 2))))))))
theorem sc_BadKind___init : FnScope [(PySem.Str.ofString "self"), (PySem.Str.ofString "part")] [(PySem.Str.ofString "self"), (PySem.Str.ofString "part")] (defScope (mem 3 0)) := ⟨rfl, rfl, rfl, by decide +kernel, rfl, by decide +kernel, by decide +kernel⟩
theorem okx_init_BadKind (T : Txt K mg) : FnOk P w K mg base (L2.CX P w) 1 (T.ad 8) (T.fd 8) [(PySem.Str.ofString "self"), (PySem.Str.ofString "part")] (spX (T.ca 3) z_part) := by
  rw [← qz_part]
  exact fokX T.ox_BadKind T.nx_BadKind_part T.F_BadKind___init sc_BadKind___init rfl rfl fun cdv A outer s H E => pss_one (ps_ost (pv 0) (pv 1))
theorem bnx_BadKind (T : Txt K mg) : Binds K (T.fd 8) [(PySem.Str.ofString "self"), (PySem.Str.ofString "part")] [] := T.F_BadKind___init.bindsN fun _ _ _ _ _ _ us hl => match us, hl with | [_, _], _ => rfl
theorem sc_is_name : FnScope [(PySem.Str.ofString "value"), (PySem.Str.ofString "letter")] [(PySem.Str.ofString "value")] (defScope (top 15)) := ⟨rfl, rfl, rfl, by decide +kernel, rfl, by decide +kernel, by decide +kernel⟩
theorem bn_is_name (T : Txt K mg) : BnD K (LT T) (T.fd 9) [(PySem.Str.ofString "value")] 1 [] (fun ds _ => ds) := bn_all (T.F_is_name.bindsN fun _ _ _ _ _ _ us hl => match us, hl with | [_], _ => rfl)
theorem ok_is_name (T : Txt K mg) : FnOk P w K mg base (L2.CX P w) 1 (T.ad 9) (T.fd 9) [(PySem.Str.ofString "value")] (spD (LT T) 1 m_is_name) := by
  refine fok T.F_is_name sc_is_name rfl (fun cdv A outer s H E hr => ?_)
  have tk : L2.Takes (cxOf (L2.CX P w) P w K mg base [(PySem.Str.ofString "value"), (PySem.Str.ofString "letter")] (PySem.Str.ofString "is_name") (defScope (top 15)) (T.ad 9) cdv A outer s H E) (fun c dd _ H => E c dd H) := takes_of rfl rfl rfl rfl
  have po : PassesOwn (model P w) (cxOf (L2.CX P w) P w K mg base [(PySem.Str.ofString "value"), (PySem.Str.ofString "letter")] (PySem.Str.ofString "is_name") (defScope (top 15)) (T.ad 9) cdv A outer s H E).A (cxOf (L2.CX P w) P w K mg base [(PySem.Str.ofString "value"), (PySem.Str.ofString "letter")] (PySem.Str.ofString "is_name") (defScope (top 15)) (T.ad 9) cdv A outer s H E).env (cxOf (L2.CX P w) P w K mg base [(PySem.Str.ofString "value"), (PySem.Str.ofString "letter")] (PySem.Str.ofString "is_name") (defScope (top 15)) (T.ad 9) cdv A outer s H E).xe := passes_of rfl
  exact (ss_cons (s_if (PW.pt (w_or (t_not (t_val (d_isi (.ty _) (ia_str T) rfl T.n_isinstance bt_isinstance (p_q (q_v (pv 0))) (pe_bltn rfl T.n_str bt_str rfl)))) (w_or1 (t_not (t_chain op_leO op_leO ord_bl d_int (d_b1 len_D rfl T.n_len bt_len (p_q (q_v (pv 0)))) (p_q (q_glob (v := .int 8) rfl (cz_LONGEST_NAME T).choose_spec ⟨_, rfl⟩ (fun _ _ => rfl)))))))) (ss_one (s_ret d_bl)) ss_nil)
  (ss_one (s_ret (d_b1 (all_D rfl) rfl T.n_all bt_all (p_e (d_fz (f_lc rfl sc_is_name.nd (i_val (d_v (pv 0))) (own := [((PySem.Str.ofString "letter"), 1)]) (by first | rfl | kernel_rfl) (by decide) (fun _ _ _ _ _ => (g_name (pg_name sc_is_name.nd (i := 1) rfl (by first | exact Or.inl rfl | exact Or.inr rfl)))) (fun _ _ _ _ _ => ts_nil) (fun _ _ _ _ _ => (d_cmpQ (op_inO hr.units) (p_q (q_v (pv 1))) (q_glob (v := .str z_abcdefghijklmnopqrstuvwxyz) rfl (cz_LETTERS T).choose_spec ⟨_, rfl⟩ (fun _ _ => rfl)))))))))))
theorem sc_is_row : FnScope [(PySem.Str.ofString "value")] [(PySem.Str.ofString "value")] (defScope (top 13)) := ⟨rfl, rfl, rfl, by decide +kernel, rfl, by decide +kernel, by decide +kernel⟩
theorem bn_is_row (T : Txt K mg) : BnD K (LT T) (T.fd 10) [(PySem.Str.ofString "value")] 1 [] (fun ds _ => ds) := bn_all (T.F_is_row.bindsN fun _ _ _ _ _ _ us hl => match us, hl with | [_], _ => rfl)
theorem ok_is_row (T : Txt K mg) : FnOk P w K mg base (L2.CX P w) 1 (T.ad 10) (T.fd 10) [(PySem.Str.ofString "value")] (spD (LT T) 1 m_is_row) := by
  refine fok T.F_is_row sc_is_row rfl (fun cdv A outer s H E hr => ?_)
  have tk : L2.Takes (cxOf (L2.CX P w) P w K mg base [(PySem.Str.ofString "value")] (PySem.Str.ofString "is_row") (defScope (top 13)) (T.ad 10) cdv A outer s H E) (fun c dd _ H => E c dd H) := takes_of rfl rfl rfl rfl
  have po : PassesOwn (model P w) (cxOf (L2.CX P w) P w K mg base [(PySem.Str.ofString "value")] (PySem.Str.ofString "is_row") (defScope (top 13)) (T.ad 10) cdv A outer s H E).A (cxOf (L2.CX P w) P w K mg base [(PySem.Str.ofString "value")] (PySem.Str.ofString "is_row") (defScope (top 13)) (T.ad 10) cdv A outer s H E).env (cxOf (L2.CX P w) P w K mg base [(PySem.Str.ofString "value")] (PySem.Str.ofString "is_row") (defScope (top 13)) (T.ad 10) cdv A outer s H E).xe := passes_of rfl
  exact (ss_one (s_ret (d_isiT ik_list_tuple (ia_list_tuple T) rfl T.n_isinstance bt_isinstance (p_q (q_v (pv 0))) (ipa_lt T.n_list T.n_tuple rfl rfl) (ipt_list_tuple) (by decide))))
theorem sc_is_row_of : FnScope [(PySem.Str.ofString "value"), (PySem.Str.ofString "least"), (PySem.Str.ofString "most")] [(PySem.Str.ofString "value"), (PySem.Str.ofString "least"), (PySem.Str.ofString "most")] (defScope (top 14)) := ⟨rfl, rfl, rfl, by decide +kernel, rfl, by decide +kernel, by decide +kernel⟩
theorem bn_is_row_of (T : Txt K mg) : BnD K (LT T) (T.fd 11) [(PySem.Str.ofString "value"), (PySem.Str.ofString "least"), (PySem.Str.ofString "most")] 3 [] (fun ds _ => ds) := bn_all (T.F_is_row_of.bindsN fun _ _ _ _ _ _ us hl => match us, hl with | [_, _, _], _ => rfl)
theorem ok_is_row_of (T : Txt K mg) : FnOk P w K mg base (L2.CX P w) 2 (T.ad 11) (T.fd 11) [(PySem.Str.ofString "value"), (PySem.Str.ofString "least"), (PySem.Str.ofString "most")] (spD (LT T) 3 m_is_row_of) := by
  refine fok T.F_is_row_of sc_is_row_of rfl (fun cdv A outer s H E hr => ?_)
  have tk : L2.Takes (cxOf (L2.CX P w) P w K mg base [(PySem.Str.ofString "value"), (PySem.Str.ofString "least"), (PySem.Str.ofString "most")] (PySem.Str.ofString "is_row_of") (defScope (top 14)) (T.ad 11) cdv A outer s H E) (fun c dd _ H => E c dd H) := takes_of rfl rfl rfl rfl
  have po : PassesOwn (model P w) (cxOf (L2.CX P w) P w K mg base [(PySem.Str.ofString "value"), (PySem.Str.ofString "least"), (PySem.Str.ofString "most")] (PySem.Str.ofString "is_row_of") (defScope (top 14)) (T.ad 11) cdv A outer s H E).A (cxOf (L2.CX P w) P w K mg base [(PySem.Str.ofString "value"), (PySem.Str.ofString "least"), (PySem.Str.ofString "most")] (PySem.Str.ofString "is_row_of") (defScope (top 14)) (T.ad 11) cdv A outer s H E).env (cxOf (L2.CX P w) P w K mg base [(PySem.Str.ofString "value"), (PySem.Str.ofString "least"), (PySem.Str.ofString "most")] (PySem.Str.ofString "is_row_of") (defScope (top 14)) (T.ad 11) cdv A outer s H E).xe := passes_of rfl
  exact (ss_one (s_ret (d_and (d_call (ks := []) (ok_is_row T) (hr.mono (by decide)) tk rfl T.g_is_row T.F_is_row.kp (bn_is_row T) (cl_a (a_cons (d_v (pv 0)) a_nil))) (d_one (d_chain op_leO op_leO ord_bl (d_v (pv 1)) (d_b1 len_D rfl T.n_len bt_len (p_q (q_v (pv 0)))) (p_q (q_v (pv 2))))))))
theorem sc_are_answers : FnScope [(PySem.Str.ofString "value"), (PySem.Str.ofString "results"), (PySem.Str.ofString "states"), (PySem.Str.ofString "met"), (PySem.Str.ofString "answer")] [(PySem.Str.ofString "value"), (PySem.Str.ofString "results"), (PySem.Str.ofString "states")] (defScope (top 26)) := ⟨rfl, rfl, rfl, by decide +kernel, rfl, by decide +kernel, by decide +kernel⟩
theorem bn_are_answers (T : Txt K mg) : BnD K (LT T) (T.fd 12) [(PySem.Str.ofString "value"), (PySem.Str.ofString "results"), (PySem.Str.ofString "states")] 3 [] (fun ds _ => ds) := bn_all (T.F_are_answers.bindsN fun _ _ _ _ _ _ us hl => match us, hl with | [_, _, _], _ => rfl)
theorem ok_are_answers (T : Txt K mg) : FnOk P w K mg base (L2.CX P w) 3 (T.ad 12) (T.fd 12) [(PySem.Str.ofString "value"), (PySem.Str.ofString "results"), (PySem.Str.ofString "states")] (spD (LT T) 3 m_are_answers) := by
  refine fok T.F_are_answers sc_are_answers rfl (fun cdv A outer s H E hr => ?_)
  have tk : L2.Takes (cxOf (L2.CX P w) P w K mg base [(PySem.Str.ofString "value"), (PySem.Str.ofString "results"), (PySem.Str.ofString "states"), (PySem.Str.ofString "met"), (PySem.Str.ofString "answer")] (PySem.Str.ofString "are_answers") (defScope (top 26)) (T.ad 12) cdv A outer s H E) (fun c dd _ H => E c dd H) := takes_of rfl rfl rfl rfl
  have po : PassesOwn (model P w) (cxOf (L2.CX P w) P w K mg base [(PySem.Str.ofString "value"), (PySem.Str.ofString "results"), (PySem.Str.ofString "states"), (PySem.Str.ofString "met"), (PySem.Str.ofString "answer")] (PySem.Str.ofString "are_answers") (defScope (top 26)) (T.ad 12) cdv A outer s H E).A (cxOf (L2.CX P w) P w K mg base [(PySem.Str.ofString "value"), (PySem.Str.ofString "results"), (PySem.Str.ofString "states"), (PySem.Str.ofString "met"), (PySem.Str.ofString "answer")] (PySem.Str.ofString "are_answers") (defScope (top 26)) (T.ad 12) cdv A outer s H E).env (cxOf (L2.CX P w) P w K mg base [(PySem.Str.ofString "value"), (PySem.Str.ofString "results"), (PySem.Str.ofString "states"), (PySem.Str.ofString "met"), (PySem.Str.ofString "answer")] (PySem.Str.ofString "are_answers") (defScope (top 26)) (T.ad 12) cdv A outer s H E).xe := passes_of rfl
  exact (ss_cons (s_if (t_not (t_val (d_call (ks := []) (ok_is_row_of T) (hr.mono (by decide)) tk rfl T.g_is_row_of T.F_is_row_of.kp (bn_is_row_of T) (cl_a (a_cons (d_v (pv 0)) (a_cons d_int (a_cons (d_glob (v := .int 8) rfl (cz_MOST_ANSWERS T).choose_spec ⟨_, rfl⟩ (fun _ _ => rfl)) a_nil))))))) (ss_one (s_ret d_bl)) ss_nil)
  (ss_cons (s_new sc_are_answers.nd (i := 3) rfl (by first | exact Or.inl rfl | exact Or.inr rfl) (f_lst a_nil))
  (ss_cons (s_for po rfl (i_val (d_v (pv 0))) (g_name (pg_name sc_are_answers.nd (i := 4) rfl (by first | exact Or.inl rfl | exact Or.inr rfl))) (ss_cons (s_if (t_not (t_val (d_call (ks := []) (ok_is_row_of T) (hr.mono (by decide)) tk rfl T.g_is_row_of T.F_is_row_of.kp (bn_is_row_of T) (cl_a (a_cons (d_v (pv 4)) (a_cons d_int (a_cons d_int a_nil))))))) (ss_one (s_ret d_bl)) ss_nil)
  (ss_cons (s_if (PW.pt (w_or (t_not (t_val (d_call (ks := []) (ok_is_between T) (hr.mono (by decide)) tk rfl T.g_is_between T.F_is_between.kp (bn_is_between T) (cl_a (a_cons (d_ixQ hr.units (p_q (q_v (pv 4))) q_int) (a_cons d_int (a_cons (d_binQ op_subO (p_q (q_v (pv 1))) q_int) a_nil))))))) (w_or1 (t_not (t_val (d_call (ks := []) (ok_is_between T) (hr.mono (by decide)) tk rfl T.g_is_between T.F_is_between.kp (bn_is_between T) (cl_a (a_cons (d_ixQ hr.units (p_q (q_v (pv 4))) q_int) (a_cons d_int (a_cons (d_binQ op_subO (p_q (q_v (pv 2))) q_int) a_nil)))))))))) (ss_one (s_ret d_bl)) ss_nil)
  (ss_cons (s_if (t_cmp (op_inO hr.units) (d_t1 tuple_D rfl T.n_tuple bt_tuple (p_q (q_v (pv 4)))) (p_q (q_v (pv 3)))) (ss_one (s_ret d_bl)) ss_nil)
  (ss_one (s_expr (d_append (pv 3) (a_cons (d_t1 tuple_D rfl T.n_tuple bt_tuple (p_q (q_v (pv 4)))) a_nil))))))))
  (ss_one (s_ret d_bl)))))
theorem sc_is_method : FnScope [(PySem.Str.ofString "value"), (PySem.Str.ofString "states"), (PySem.Str.ofString "arguments"), (PySem.Str.ofString "results"), (PySem.Str.ofString "rows"), (PySem.Str.ofString "row"), (PySem.Str.ofString "answers")] [(PySem.Str.ofString "value"), (PySem.Str.ofString "states")] (defScope (top 27)) := ⟨rfl, rfl, rfl, by decide +kernel, rfl, by decide +kernel, by decide +kernel⟩
theorem bn_is_method (T : Txt K mg) : BnD K (LT T) (T.fd 13) [(PySem.Str.ofString "value"), (PySem.Str.ofString "states")] 2 [] (fun ds _ => ds) := bn_all (T.F_is_method.bindsN fun _ _ _ _ _ _ us hl => match us, hl with | [_, _], _ => rfl)
theorem ok_is_method (T : Txt K mg) : FnOk P w K mg base (L2.CX P w) 4 (T.ad 13) (T.fd 13) [(PySem.Str.ofString "value"), (PySem.Str.ofString "states")] (spD (LT T) 2 m_is_method) := by
  refine fok T.F_is_method sc_is_method rfl (fun cdv A outer s H E hr => ?_)
  have tk : L2.Takes (cxOf (L2.CX P w) P w K mg base [(PySem.Str.ofString "value"), (PySem.Str.ofString "states"), (PySem.Str.ofString "arguments"), (PySem.Str.ofString "results"), (PySem.Str.ofString "rows"), (PySem.Str.ofString "row"), (PySem.Str.ofString "answers")] (PySem.Str.ofString "is_method") (defScope (top 27)) (T.ad 13) cdv A outer s H E) (fun c dd _ H => E c dd H) := takes_of rfl rfl rfl rfl
  have po : PassesOwn (model P w) (cxOf (L2.CX P w) P w K mg base [(PySem.Str.ofString "value"), (PySem.Str.ofString "states"), (PySem.Str.ofString "arguments"), (PySem.Str.ofString "results"), (PySem.Str.ofString "rows"), (PySem.Str.ofString "row"), (PySem.Str.ofString "answers")] (PySem.Str.ofString "is_method") (defScope (top 27)) (T.ad 13) cdv A outer s H E).A (cxOf (L2.CX P w) P w K mg base [(PySem.Str.ofString "value"), (PySem.Str.ofString "states"), (PySem.Str.ofString "arguments"), (PySem.Str.ofString "results"), (PySem.Str.ofString "rows"), (PySem.Str.ofString "row"), (PySem.Str.ofString "answers")] (PySem.Str.ofString "is_method") (defScope (top 27)) (T.ad 13) cdv A outer s H E).env (cxOf (L2.CX P w) P w K mg base [(PySem.Str.ofString "value"), (PySem.Str.ofString "states"), (PySem.Str.ofString "arguments"), (PySem.Str.ofString "results"), (PySem.Str.ofString "rows"), (PySem.Str.ofString "row"), (PySem.Str.ofString "answers")] (PySem.Str.ofString "is_method") (defScope (top 27)) (T.ad 13) cdv A outer s H E).xe := passes_of rfl
  exact (ss_cons (s_if (t_not (t_val (d_call (ks := []) (ok_is_row_of T) (hr.mono (by decide)) tk rfl T.g_is_row_of T.F_is_row_of.kp (bn_is_row_of T) (cl_a (a_cons (d_v (pv 0)) (a_cons d_int (a_cons d_int a_nil))))))) (ss_one (s_ret d_bl)) ss_nil)
  (ss_cons (s_asg (d_v (pv 0)) (g_tup rfl (gs_cons (g_name (pg_name sc_is_method.nd (i := 2) rfl (by first | exact Or.inl rfl | exact Or.inr rfl))) (gs_cons (g_name (pg_name sc_is_method.nd (i := 3) rfl (by first | exact Or.inl rfl | exact Or.inr rfl))) (gs_cons (g_name (pg_name sc_is_method.nd (i := 4) rfl (by first | exact Or.inl rfl | exact Or.inr rfl))) gs_nil)))))
  (ss_cons (s_if (PW.pt (w_or (t_not (t_val (d_call (ks := []) (ok_is_between T) (hr.mono (by decide)) tk rfl T.g_is_between T.F_is_between.kp (bn_is_between T) (cl_a (a_cons (d_v (pv 2)) (a_cons d_int (a_cons (d_glob (v := .int 4) rfl (cz_MOST_VALUES T).choose_spec ⟨_, rfl⟩ (fun _ _ => rfl)) a_nil))))))) (w_or1 (t_not (t_val (d_call (ks := []) (ok_is_between T) (hr.mono (by decide)) tk rfl T.g_is_between T.F_is_between.kp (bn_is_between T) (cl_a (a_cons (d_v (pv 3)) (a_cons d_int (a_cons (d_glob (v := .int 4) rfl (cz_MOST_VALUES T).choose_spec ⟨_, rfl⟩ (fun _ _ => rfl)) a_nil)))))))))) (ss_one (s_ret d_bl)) ss_nil)
  (ss_cons (s_if (t_not (t_val (d_call (ks := []) (ok_is_row_of T) (hr.mono (by decide)) tk rfl T.g_is_row_of T.F_is_row_of.kp (bn_is_row_of T) (cl_a (a_cons (d_v (pv 4)) (a_cons (d_v (pv 1)) (a_cons (d_v (pv 1)) a_nil))))))) (ss_one (s_ret d_bl)) ss_nil)
  (ss_cons (s_for po rfl (i_val (d_v (pv 4))) (g_name (pg_name sc_is_method.nd (i := 5) rfl (by first | exact Or.inl rfl | exact Or.inr rfl))) (ss_cons (s_if (t_not (t_val (d_call (ks := []) (ok_is_row_of T) (hr.mono (by decide)) tk rfl T.g_is_row_of T.F_is_row_of.kp (bn_is_row_of T) (cl_a (a_cons (d_v (pv 5)) (a_cons (d_v (pv 2)) (a_cons (d_v (pv 2)) a_nil))))))) (ss_one (s_ret d_bl)) ss_nil)
  (ss_one (s_if (t_not (t_val (d_b1 (all_D rfl) rfl T.n_all bt_all (p_e (d_fz (f_lc rfl sc_is_method.nd (i_val (d_v (pv 5))) (own := [((PySem.Str.ofString "answers"), 6)]) (by first | rfl | kernel_rfl) (by decide) (fun _ _ _ _ _ => (g_name (pg_name sc_is_method.nd (i := 6) rfl (by first | exact Or.inl rfl | exact Or.inr rfl)))) (fun _ _ _ _ _ => ts_nil) (fun _ _ _ _ _ => (d_call (ks := []) (ok_are_answers T) (hr.mono (by decide)) takes0 rfl T.g_are_answers T.F_are_answers.kp (bn_are_answers T) (cl_a (a_cons (d_v (pv 6)) (a_cons (d_v (pv 3)) (a_cons (d_v (pv 1)) a_nil)))))))))))) (ss_one (s_ret d_bl)) ss_nil))))
  (ss_one (s_ret d_bl)))))))
theorem sc_are_methods : FnScope [(PySem.Str.ofString "value"), (PySem.Str.ofString "states"), (PySem.Str.ofString "name")] [(PySem.Str.ofString "value"), (PySem.Str.ofString "states")] (defScope (top 28)) := ⟨rfl, rfl, rfl, by decide +kernel, rfl, by decide +kernel, by decide +kernel⟩
theorem bn_are_methods (T : Txt K mg) : BnD K (LT T) (T.fd 14) [(PySem.Str.ofString "value"), (PySem.Str.ofString "states")] 2 [] (fun ds _ => ds) := bn_all (T.F_are_methods.bindsN fun _ _ _ _ _ _ us hl => match us, hl with | [_, _], _ => rfl)
theorem ok_are_methods (T : Txt K mg) : FnOk P w K mg base (L2.CX P w) 5 (T.ad 14) (T.fd 14) [(PySem.Str.ofString "value"), (PySem.Str.ofString "states")] (spD (LT T) 2 m_are_methods) := by
  refine fok T.F_are_methods sc_are_methods rfl (fun cdv A outer s H E hr => ?_)
  have tk : L2.Takes (cxOf (L2.CX P w) P w K mg base [(PySem.Str.ofString "value"), (PySem.Str.ofString "states"), (PySem.Str.ofString "name")] (PySem.Str.ofString "are_methods") (defScope (top 28)) (T.ad 14) cdv A outer s H E) (fun c dd _ H => E c dd H) := takes_of rfl rfl rfl rfl
  have po : PassesOwn (model P w) (cxOf (L2.CX P w) P w K mg base [(PySem.Str.ofString "value"), (PySem.Str.ofString "states"), (PySem.Str.ofString "name")] (PySem.Str.ofString "are_methods") (defScope (top 28)) (T.ad 14) cdv A outer s H E).A (cxOf (L2.CX P w) P w K mg base [(PySem.Str.ofString "value"), (PySem.Str.ofString "states"), (PySem.Str.ofString "name")] (PySem.Str.ofString "are_methods") (defScope (top 28)) (T.ad 14) cdv A outer s H E).env (cxOf (L2.CX P w) P w K mg base [(PySem.Str.ofString "value"), (PySem.Str.ofString "states"), (PySem.Str.ofString "name")] (PySem.Str.ofString "are_methods") (defScope (top 28)) (T.ad 14) cdv A outer s H E).xe := passes_of rfl
  exact (ss_cons (s_if (PW.pt (w_or (t_not (t_val (d_isi (.ty _) (ia_dict T) rfl T.n_isinstance bt_isinstance (p_q (q_v (pv 0))) (pe_bltn rfl T.n_dict bt_dict rfl)))) (w_or1 (t_not (t_chain op_leO op_leO ord_bl d_int (d_b1 len_D rfl T.n_len bt_len (p_q (q_v (pv 0)))) (p_q (q_glob (v := .int 4) rfl (cz_MOST_METHODS T).choose_spec ⟨_, rfl⟩ (fun _ _ => rfl)))))))) (ss_one (s_ret d_bl)) ss_nil)
  (ss_one (s_ret (d_b1 (all_D rfl) rfl T.n_all bt_all (p_e (d_fz (f_lc rfl sc_are_methods.nd (i_val (d_v (pv 0))) (own := [((PySem.Str.ofString "name"), 2)]) (by first | rfl | kernel_rfl) (by decide) (fun _ _ _ _ _ => (g_name (pg_name sc_are_methods.nd (i := 2) rfl (by first | exact Or.inl rfl | exact Or.inr rfl)))) (fun _ _ _ _ _ => ts_nil) (fun _ _ _ _ _ => (d_and (d_call (ks := []) (ok_is_name T) (hr.mono (by decide)) takes0 rfl T.g_is_name T.F_is_name.kp (bn_is_name T) (cl_a (a_cons (d_v (pv 2)) a_nil))) (d_one (d_call (ks := []) (ok_is_method T) (hr.mono (by decide)) takes0 rfl T.g_is_method T.F_is_method.kp (bn_is_method T) (cl_a (a_cons (d_ixQ hr.units (p_q (q_v (pv 0))) (q_v (pv 2))) (a_cons (d_v (pv 1)) a_nil))))))))))))))
theorem sc_ordered_method : FnScope [(PySem.Str.ofString "value"), (PySem.Str.ofString "arguments"), (PySem.Str.ofString "results"), (PySem.Str.ofString "rows"), (PySem.Str.ofString "ordered"), (PySem.Str.ofString "row"), (PySem.Str.ofString "answers"), (PySem.Str.ofString "answer")] [(PySem.Str.ofString "value")] (defScope (top 29)) := ⟨rfl, rfl, rfl, by decide +kernel, rfl, by decide +kernel, by decide +kernel⟩
theorem bn_ordered_method (T : Txt K mg) : BnD K (LT T) (T.fd 15) [(PySem.Str.ofString "value")] 1 [] (fun ds _ => ds) := bn_all (T.F_ordered_method.bindsN fun _ _ _ _ _ _ us hl => match us, hl with | [_], _ => rfl)
theorem ok_ordered_method (T : Txt K mg) : FnOk P w K mg base (L2.CX P w) 1 (T.ad 15) (T.fd 15) [(PySem.Str.ofString "value")] (spD (LT T) 1 m_ordered_method) := by
  refine fok T.F_ordered_method sc_ordered_method rfl (fun cdv A outer s H E hr => ?_)
  have tk : L2.Takes (cxOf (L2.CX P w) P w K mg base [(PySem.Str.ofString "value"), (PySem.Str.ofString "arguments"), (PySem.Str.ofString "results"), (PySem.Str.ofString "rows"), (PySem.Str.ofString "ordered"), (PySem.Str.ofString "row"), (PySem.Str.ofString "answers"), (PySem.Str.ofString "answer")] (PySem.Str.ofString "ordered_method") (defScope (top 29)) (T.ad 15) cdv A outer s H E) (fun c dd _ H => E c dd H) := takes_of rfl rfl rfl rfl
  have po : PassesOwn (model P w) (cxOf (L2.CX P w) P w K mg base [(PySem.Str.ofString "value"), (PySem.Str.ofString "arguments"), (PySem.Str.ofString "results"), (PySem.Str.ofString "rows"), (PySem.Str.ofString "ordered"), (PySem.Str.ofString "row"), (PySem.Str.ofString "answers"), (PySem.Str.ofString "answer")] (PySem.Str.ofString "ordered_method") (defScope (top 29)) (T.ad 15) cdv A outer s H E).A (cxOf (L2.CX P w) P w K mg base [(PySem.Str.ofString "value"), (PySem.Str.ofString "arguments"), (PySem.Str.ofString "results"), (PySem.Str.ofString "rows"), (PySem.Str.ofString "ordered"), (PySem.Str.ofString "row"), (PySem.Str.ofString "answers"), (PySem.Str.ofString "answer")] (PySem.Str.ofString "ordered_method") (defScope (top 29)) (T.ad 15) cdv A outer s H E).env (cxOf (L2.CX P w) P w K mg base [(PySem.Str.ofString "value"), (PySem.Str.ofString "arguments"), (PySem.Str.ofString "results"), (PySem.Str.ofString "rows"), (PySem.Str.ofString "ordered"), (PySem.Str.ofString "row"), (PySem.Str.ofString "answers"), (PySem.Str.ofString "answer")] (PySem.Str.ofString "ordered_method") (defScope (top 29)) (T.ad 15) cdv A outer s H E).xe := passes_of rfl
  exact (ss_cons (s_asg (d_v (pv 0)) (g_tup rfl (gs_cons (g_name (pg_name sc_ordered_method.nd (i := 1) rfl (by first | exact Or.inl rfl | exact Or.inr rfl))) (gs_cons (g_name (pg_name sc_ordered_method.nd (i := 2) rfl (by first | exact Or.inl rfl | exact Or.inr rfl))) (gs_cons (g_name (pg_name sc_ordered_method.nd (i := 3) rfl (by first | exact Or.inl rfl | exact Or.inr rfl))) gs_nil)))))
  (ss_cons (s_new sc_ordered_method.nd (i := 4) rfl (by first | exact Or.inl rfl | exact Or.inr rfl) (f_lst a_nil))
  (ss_cons (s_for po rfl (i_val (d_v (pv 3))) (g_name (pg_name sc_ordered_method.nd (i := 5) rfl (by first | exact Or.inl rfl | exact Or.inr rfl))) (ss_one (s_expr (d_append (pv 4) (a_cons (d_t1 tuple_D rfl T.n_tuple bt_tuple (p_e (d_fz (f_lc rfl sc_ordered_method.nd (i_val (d_v (pv 5))) (own := [((PySem.Str.ofString "answers"), 6)]) (by first | rfl | kernel_rfl) (by decide) (fun _ _ _ _ _ => (g_name (pg_name sc_ordered_method.nd (i := 6) rfl (by first | exact Or.inl rfl | exact Or.inr rfl)))) (fun _ _ _ _ _ => ts_nil) (fun _ _ _ _ _ => (d_t1 tuple_D rfl T.n_tuple bt_tuple (p_e (d_fz (f_b1 (sorted_D hr.units) rfl T.n_sorted bt_sorted (p_e (d_fz (f_lc rfl sc_ordered_method.nd (i_val (d_v (pv 6))) (own := [((PySem.Str.ofString "answer"), 7)]) (by first | rfl | kernel_rfl) (by decide) (fun _ _ _ _ _ => (g_name (pg_name sc_ordered_method.nd (i := 7) rfl (by first | exact Or.inl rfl | exact Or.inr rfl)))) (fun _ _ _ _ _ => ts_nil) (fun _ _ _ _ _ => (d_t1 tuple_D rfl T.n_tuple bt_tuple (p_q (q_v (pv 7))))))))))))))))) a_nil)))))
  (ss_one (s_ret (d_tup (a_cons (d_v (pv 1)) (a_cons (d_v (pv 2)) (a_cons (d_t1 tuple_D rfl T.n_tuple bt_tuple (p_q (q_v (pv 4)))) a_nil)))))))))
theorem sc_Kind___init : FnScope [(PySem.Str.ofString "self"), (PySem.Str.ofString "states"), (PySem.Str.ofString "start"), (PySem.Str.ofString "methods"), (PySem.Str.ofString "name")] [(PySem.Str.ofString "self"), (PySem.Str.ofString "states"), (PySem.Str.ofString "start"), (PySem.Str.ofString "methods")] (defScope (mem 30 0)) := ⟨rfl, rfl, rfl, by decide +kernel, rfl, by decide +kernel, by decide +kernel⟩
theorem bi_Kind___init (T : Txt K mg) : BnI K (LT T) (T.fd 16) [(PySem.Str.ofString "self"), (PySem.Str.ofString "states"), (PySem.Str.ofString "start"), (PySem.Str.ofString "methods")] 3 [] (fun ds _ => ds) := bi_all (T.F_Kind___init.bindsN fun _ _ _ _ _ _ us hl => match us, hl with | [_, _, _, _], _ => rfl) rfl
theorem ok_Kind___init (T : Txt K mg) : FnOk P w K mg base (L2.CX P w) 6 (T.ad 16) (T.fd 16) [(PySem.Str.ofString "self"), (PySem.Str.ofString "states"), (PySem.Str.ofString "start"), (PySem.Str.ofString "methods")] (spI (LT T) 33 4 m_Kind___init) := by
  refine fokI T.F_Kind___init sc_Kind___init rfl (by decide) (fun x cdv A outer s H E hr => ?_)
  have tk : L2.Takes (cxOf (L2.CX P w) P w K mg base [(PySem.Str.ofString "self"), (PySem.Str.ofString "states"), (PySem.Str.ofString "start"), (PySem.Str.ofString "methods"), (PySem.Str.ofString "name")] (PySem.Str.ofString "Kind.__init__") (defScope (mem 30 0)) (T.ad 16) cdv A outer s H E) (fun c dd _ H => E c dd H) := takes_of rfl rfl rfl rfl
  have po : PassesOwn (model P w) (cxOf (L2.CX P w) P w K mg base [(PySem.Str.ofString "self"), (PySem.Str.ofString "states"), (PySem.Str.ofString "start"), (PySem.Str.ofString "methods"), (PySem.Str.ofString "name")] (PySem.Str.ofString "Kind.__init__") (defScope (mem 30 0)) (T.ad 16) cdv A outer s H E).A (cxOf (L2.CX P w) P w K mg base [(PySem.Str.ofString "self"), (PySem.Str.ofString "states"), (PySem.Str.ofString "start"), (PySem.Str.ofString "methods"), (PySem.Str.ofString "name")] (PySem.Str.ofString "Kind.__init__") (defScope (mem 30 0)) (T.ad 16) cdv A outer s H E).env (cxOf (L2.CX P w) P w K mg base [(PySem.Str.ofString "self"), (PySem.Str.ofString "states"), (PySem.Str.ofString "start"), (PySem.Str.ofString "methods"), (PySem.Str.ofString "name")] (PySem.Str.ofString "Kind.__init__") (defScope (mem 30 0)) (T.ad 16) cdv A outer s H E).xe := passes_of rfl
  exact (ss_cons (s_if (t_not (t_val (d_call (ks := []) (fn_pin (ok_is_between T)) (hr.mono (by decide)) tk rfl T.g_is_between T.F_is_between.kp (bn_pin (bn_is_between T)) (cl_a (a_cons (d_v (pv 1)) (a_cons d_int (a_cons (d_glob (v := .int 8) rfl (cz_MOST_STATES T).choose_spec ⟨_, rfl⟩ (fun _ _ => rfl)) a_nil))))))) (ss_one (s_raise (c := 3) rfl tk T.ox_BadKind rfl T.iC_BadKind T.tI_BadKind (okx_init_BadKind T) (hr.mono (by decide)) (bnx_BadKind T) rfl T.g_BadKind (a_cons (d_strL qz_states) a_nil))) ss_nil)
  (ss_cons (s_if (t_not (t_val (d_call (ks := []) (fn_pin (ok_is_between T)) (hr.mono (by decide)) tk rfl T.g_is_between T.F_is_between.kp (bn_pin (bn_is_between T)) (cl_a (a_cons (d_v (pv 2)) (a_cons d_int (a_cons (d_binQ op_subO (p_q (q_v (pv 1))) q_int) a_nil))))))) (ss_one (s_raise (c := 3) rfl tk T.ox_BadKind rfl T.iC_BadKind T.tI_BadKind (okx_init_BadKind T) (hr.mono (by decide)) (bnx_BadKind T) rfl T.g_BadKind (a_cons (d_strL qz_start) a_nil))) ss_nil)
  (ss_cons (s_if (t_not (t_val (d_call (ks := []) (fn_pin (ok_are_methods T)) (hr.mono (by decide)) tk rfl T.g_are_methods T.F_are_methods.kp (bn_pin (bn_are_methods T)) (cl_a (a_cons (d_v (pv 3)) (a_cons (d_v (pv 1)) a_nil)))))) (ss_one (s_raise (c := 3) rfl tk T.ox_BadKind rfl T.iC_BadKind T.tI_BadKind (okx_init_BadKind T) (hr.mono (by decide)) (bnx_BadKind T) rfl T.g_BadKind (a_cons (d_strL qz_methods) a_nil))) ss_nil)
  (ss_cons (s_fldL qz_states (c := 33) T.cl_Kind (nz_Kind_states T) (pv 0) (d_v (pv 1)))
  (ss_cons (s_fldL qz_start (c := 33) T.cl_Kind (nz_Kind_start T) (pv 0) (d_v (pv 2)))
  (ss_one (s_fldL qz__methods (c := 33) T.cl_Kind (nz_Kind__methods T) (pv 0) (d_fz (f_dc rfl sc_Kind___init.nd (i_val (d_fz (f_b1 (sorted_D hr.units) rfl T.n_sorted bt_sorted (p_e (d_fz (f_t1 (list_D rfl) rfl T.n_list bt_list (p_q (q_v (pv 3))))))))) (own := [((PySem.Str.ofString "name"), 4)]) (by first | rfl | kernel_rfl) (by decide) (fun _ _ _ _ _ => (g_name (pg_name sc_Kind___init.nd (i := 4) rfl (by first | exact Or.inl rfl | exact Or.inr rfl)))) (fun _ _ _ _ _ => ts_nil) (fun _ _ _ _ _ => (d_v (pv 4))) (fun _ _ _ _ _ => (d_call (ks := []) (fn_pin (ok_ordered_method T)) (hr.mono (by decide)) takes0 rfl T.g_ordered_method T.F_ordered_method.kp (bn_pin (bn_ordered_method T)) (cl_a (a_cons (d_ixQ hr.units (p_q (q_v (pv 3))) (q_v (pv 4))) a_nil)))))))))))))
theorem sc_law_copied : FnScope [(PySem.Str.ofString "_law_value"), (PySem.Str.ofString "_law_found"), (PySem.Str.ofString "_law_key"), (PySem.Str.ofString "_law_item")] [(PySem.Str.ofString "_law_value")] (defScope (top 38)) := ⟨rfl, rfl, rfl, by decide +kernel, rfl, by decide +kernel, by decide +kernel⟩
theorem bn_law_copied (T : Txt K mg) : BnD K (LT T) (T.fd 17) [(PySem.Str.ofString "_law_value")] 1 [] (fun ds _ => ds) := bn_all (T.F_law_copied.bindsN fun _ _ _ _ _ _ us hl => match us, hl with | [_], _ => rfl)
theorem ok_law_copied (T : Txt K mg) : ∀ fuel : Nat, FnOk P w K mg base (L2.CX P w) (0 + fuel) (T.ad 17) (T.fd 17) [(PySem.Str.ofString "_law_value")] (spD (LT T) 1 (m_law_copied fuel))
  | 0 => fok0
  | fuel + 1 => by
    have ih := ok_law_copied T fuel
    refine fok T.F_law_copied sc_law_copied rfl (fun cdv A outer s H E hr => ?_)
    have hr : Room (0 + fuel) _ := hr
    have tk : L2.Takes (cxOf (L2.CX P w) P w K mg base [(PySem.Str.ofString "_law_value"), (PySem.Str.ofString "_law_found"), (PySem.Str.ofString "_law_key"), (PySem.Str.ofString "_law_item")] (PySem.Str.ofString "_law_copied") (defScope (top 38)) (T.ad 17) cdv A outer s H E) (fun c dd _ H => E c dd H) := takes_of rfl rfl rfl rfl
    have po : PassesOwn (model P w) (cxOf (L2.CX P w) P w K mg base [(PySem.Str.ofString "_law_value"), (PySem.Str.ofString "_law_found"), (PySem.Str.ofString "_law_key"), (PySem.Str.ofString "_law_item")] (PySem.Str.ofString "_law_copied") (defScope (top 38)) (T.ad 17) cdv A outer s H E).A (cxOf (L2.CX P w) P w K mg base [(PySem.Str.ofString "_law_value"), (PySem.Str.ofString "_law_found"), (PySem.Str.ofString "_law_key"), (PySem.Str.ofString "_law_item")] (PySem.Str.ofString "_law_copied") (defScope (top 38)) (T.ad 17) cdv A outer s H E).env (cxOf (L2.CX P w) P w K mg base [(PySem.Str.ofString "_law_value"), (PySem.Str.ofString "_law_found"), (PySem.Str.ofString "_law_key"), (PySem.Str.ofString "_law_item")] (PySem.Str.ofString "_law_copied") (defScope (top 38)) (T.ad 17) cdv A outer s H E).xe := passes_of rfl
    exact (ss_cons (s_if (t_val (d_isi (.ty _) (ia_dict T) rfl T.n_isinstance bt_isinstance (p_q (q_v (pv 0))) (pe_bltn rfl T.n_dict bt_dict rfl))) (ss_cons (s_new sc_law_copied.nd (i := 1) rfl (by first | exact Or.inl rfl | exact Or.inr rfl) f_dctK)
  (ss_cons (s_for po rfl (i_val (d_v (pv 0))) (g_name (pg_name sc_law_copied.nd (i := 2) rfl (by first | exact Or.inl rfl | exact Or.inr rfl))) (ss_one (s_put (ru1 hr) (pv 1) (d_v (pv 2)) (d_call (ks := []) ih (hr.mono (by omega)) tk rfl T.g__law_copied T.F_law_copied.kp (bn_law_copied T) (cl_a (a_cons (d_ixQ hr.units (p_q (q_v (pv 0))) (q_v (pv 2))) a_nil))))))
  (ss_one (s_ret (d_v (pv 1)))))) ss_nil)
  (ss_cons (s_if (t_val (d_isi (.ty _) (ia_list T) rfl T.n_isinstance bt_isinstance (p_q (q_v (pv 0))) (pe_bltn rfl T.n_list bt_list rfl))) (ss_one (s_ret (d_fz (f_lc rfl sc_law_copied.nd (i_val (d_v (pv 0))) (own := [((PySem.Str.ofString "_law_item"), 3)]) (by first | rfl | kernel_rfl) (by decide) (fun _ _ _ _ _ => (g_name (pg_name sc_law_copied.nd (i := 3) rfl (by first | exact Or.inl rfl | exact Or.inr rfl)))) (fun _ _ _ _ _ => ts_nil) (fun _ _ _ _ _ => (d_call (ks := []) ih (hr.mono (by omega)) takes0 rfl T.g__law_copied T.F_law_copied.kp (bn_law_copied T) (cl_a (a_cons (d_v (pv 3)) a_nil)))))))) ss_nil)
  (ss_cons (s_if (t_val (d_isi (.ty _) (ia_tuple T) rfl T.n_isinstance bt_isinstance (p_q (q_v (pv 0))) (pe_bltn rfl T.n_tuple bt_tuple rfl))) (ss_one (s_ret (d_t1 tuple_D rfl T.n_tuple bt_tuple (p_e (d_fz (f_lc rfl sc_law_copied.nd (i_val (d_v (pv 0))) (own := [((PySem.Str.ofString "_law_item"), 3)]) (by first | rfl | kernel_rfl) (by decide) (fun _ _ _ _ _ => (g_name (pg_name sc_law_copied.nd (i := 3) rfl (by first | exact Or.inl rfl | exact Or.inr rfl)))) (fun _ _ _ _ _ => ts_nil) (fun _ _ _ _ _ => (d_call (ks := []) ih (hr.mono (by omega)) takes0 rfl T.g__law_copied T.F_law_copied.kp (bn_law_copied T) (cl_a (a_cons (d_v (pv 3)) a_nil)))))))))) ss_nil)
  (ss_one (s_ret (d_v (pv 0)))))))
theorem sc_law_kind : FnScope [(PySem.Str.ofString "_law_model_here")] [(PySem.Str.ofString "_law_model_here")] (defScope (top 39)) := ⟨rfl, rfl, rfl, by decide +kernel, rfl, by decide +kernel, by decide +kernel⟩
theorem bn_law_kind (T : Txt K mg) : BnD K (LT T) (T.fd 18) [(PySem.Str.ofString "_law_model_here")] 1 [] (fun ds _ => ds) := bn_all (T.F_law_kind.bindsN fun _ _ _ _ _ _ us hl => match us, hl with | [_], _ => rfl)
theorem ok_law_kind (T : Txt K mg) : FnOk P w K mg base (L2.CX P w) 10 (T.ad 18) (T.fd 18) [(PySem.Str.ofString "_law_model_here")] (spD (LT T) 1 m_law_kind) := by
  refine fok T.F_law_kind sc_law_kind rfl (fun cdv A outer s H E hr => ?_)
  have tk : L2.Takes (cxOf (L2.CX P w) P w K mg base [(PySem.Str.ofString "_law_model_here")] (PySem.Str.ofString "_law_kind") (defScope (top 39)) (T.ad 18) cdv A outer s H E) (fun c dd _ H => E c dd H) := takes_of rfl rfl rfl rfl
  have po : PassesOwn (model P w) (cxOf (L2.CX P w) P w K mg base [(PySem.Str.ofString "_law_model_here")] (PySem.Str.ofString "_law_kind") (defScope (top 39)) (T.ad 18) cdv A outer s H E).A (cxOf (L2.CX P w) P w K mg base [(PySem.Str.ofString "_law_model_here")] (PySem.Str.ofString "_law_kind") (defScope (top 39)) (T.ad 18) cdv A outer s H E).env (cxOf (L2.CX P w) P w K mg base [(PySem.Str.ofString "_law_model_here")] (PySem.Str.ofString "_law_kind") (defScope (top 39)) (T.ad 18) cdv A outer s H E).xe := passes_of rfl
  exact (ss_one (s_ret (d_fz (f_make (c := 33) (ks := []) (fun _ => trivial) T.mk_Kind (ok_Kind___init T) (hr.mono (by decide)) tk rfl T.g_Kind (bi_Kind___init T) (cl_a (a_cons (d_ixQ hr.units (p_q (q_v (pv 0))) q_int) (a_cons (d_ixQ hr.units (p_q (q_v (pv 0))) q_int) (a_cons (d_call (ks := []) (ok_law_copied T 8) (hr.mono (by decide)) tk rfl T.g__law_copied T.F_law_copied.kp (bn_law_copied T) (cl_a (a_cons (d_ixQ hr.units (p_q (q_v (pv 0))) q_int) a_nil))) a_nil))))))))
theorem sc_law_call : FnScope [(PySem.Str.ofString "_law_pool_here"), (PySem.Str.ofString "_law_model_here"), (PySem.Str.ofString "_law_names_here"), (PySem.Str.ofString "_law_name")] [(PySem.Str.ofString "_law_pool_here"), (PySem.Str.ofString "_law_model_here")] (defScope (top 43)) := ⟨rfl, rfl, rfl, by decide +kernel, rfl, by decide +kernel, by decide +kernel⟩
theorem bn_law_call (T : Txt K mg) : BnD K (LT T) (T.fd 19) [(PySem.Str.ofString "_law_pool_here"), (PySem.Str.ofString "_law_model_here")] 2 [] (fun ds _ => ds) := bn_all (T.F_law_call.bindsN fun _ _ _ _ _ _ us hl => match us, hl with | [_, _], _ => rfl)
theorem ok_law_call (T : Txt K mg) : FnOk P w K mg base (L2.CX P w) 2 (T.ad 19) (T.fd 19) [(PySem.Str.ofString "_law_pool_here"), (PySem.Str.ofString "_law_model_here")] (spD (LT T) 2 m_law_call) := by
  refine fok T.F_law_call sc_law_call rfl (fun cdv A outer s H E hr => ?_)
  have tk : L2.Takes (cxOf (L2.CX P w) P w K mg base [(PySem.Str.ofString "_law_pool_here"), (PySem.Str.ofString "_law_model_here"), (PySem.Str.ofString "_law_names_here"), (PySem.Str.ofString "_law_name")] (PySem.Str.ofString "_law_call") (defScope (top 43)) (T.ad 19) cdv A outer s H E) (fun c dd _ H => E c dd H) := takes_of rfl rfl rfl rfl
  have po : PassesOwn (model P w) (cxOf (L2.CX P w) P w K mg base [(PySem.Str.ofString "_law_pool_here"), (PySem.Str.ofString "_law_model_here"), (PySem.Str.ofString "_law_names_here"), (PySem.Str.ofString "_law_name")] (PySem.Str.ofString "_law_call") (defScope (top 43)) (T.ad 19) cdv A outer s H E).A (cxOf (L2.CX P w) P w K mg base [(PySem.Str.ofString "_law_pool_here"), (PySem.Str.ofString "_law_model_here"), (PySem.Str.ofString "_law_names_here"), (PySem.Str.ofString "_law_name")] (PySem.Str.ofString "_law_call") (defScope (top 43)) (T.ad 19) cdv A outer s H E).env (cxOf (L2.CX P w) P w K mg base [(PySem.Str.ofString "_law_pool_here"), (PySem.Str.ofString "_law_model_here"), (PySem.Str.ofString "_law_names_here"), (PySem.Str.ofString "_law_name")] (PySem.Str.ofString "_law_call") (defScope (top 43)) (T.ad 19) cdv A outer s H E).xe := passes_of rfl
  exact (ss_cons (s_new sc_law_call.nd (i := 2) rfl (by first | exact Or.inl rfl | exact Or.inr rfl) (f_b1 (sorted_D hr.units) rfl T.n_sorted bt_sorted (p_e (d_fz (f_t1 (list_D rfl) rfl T.n_list bt_list (p_e (d_ixQ hr.units (p_q (q_v (pv 1))) q_int)))))))
  (ss_cons (s_set sc_law_call.nd (i := 3) rfl (by first | exact Or.inl rfl | exact Or.inr rfl) (d_ix hr.units (d_v (pv 2)) (p_e (d_call (ks := []) (ok_law_draw T) (hr.mono (by decide)) tk rfl T.g__law_draw T.F_law_draw.kp (bn_law_draw T) (cl_a (a_cons (d_v (pv 0)) (a_cons (d_b1 len_D rfl T.n_len bt_len (p_q (q_v (pv 2)))) a_nil)))))))
  (ss_one (s_ret (d_tup (a_cons (d_v (pv 3)) (a_cons (d_call (ks := []) (ok_law_draw T) (hr.mono (by decide)) tk rfl T.g__law_draw T.F_law_draw.kp (bn_law_draw T) (cl_a (a_cons (d_v (pv 0)) (a_cons (d_ixQ hr.units (p_e (d_ixQ hr.units (p_e (d_ixQ hr.units (p_q (q_v (pv 1))) q_int)) (q_v (pv 3)))) q_int) a_nil)))) (a_cons (d_call (ks := []) (ok_law_draw T) (hr.mono (by decide)) tk rfl T.g__law_draw T.F_law_draw.kp (bn_law_draw T) (cl_a (a_cons (d_v (pv 0)) (a_cons (d_ixQ hr.units (p_e (d_ixQ hr.units (p_e (d_ixQ hr.units (p_q (q_v (pv 1))) q_int)) (q_v (pv 3)))) q_int) a_nil)))) a_nil))))))))
theorem sc_law_behind : FnScope [(PySem.Str.ofString "_law_model_here"), (PySem.Str.ofString "_law_states"), (PySem.Str.ofString "_law_call_here"), (PySem.Str.ofString "_law_found"), (PySem.Str.ofString "_law_state"), (PySem.Str.ofString "_law_result"), (PySem.Str.ofString "_law_after")] [(PySem.Str.ofString "_law_model_here"), (PySem.Str.ofString "_law_states"), (PySem.Str.ofString "_law_call_here")] (defScope (top 41)) := ⟨rfl, rfl, rfl, by decide +kernel, rfl, by decide +kernel, by decide +kernel⟩
theorem bn_law_behind (T : Txt K mg) : BnD K (LT T) (T.fd 20) [(PySem.Str.ofString "_law_model_here"), (PySem.Str.ofString "_law_states"), (PySem.Str.ofString "_law_call_here")] 3 [] (fun ds _ => ds) := bn_all (T.F_law_behind.bindsN fun _ _ _ _ _ _ us hl => match us, hl with | [_, _, _], _ => rfl)
theorem ok_law_behind (T : Txt K mg) : FnOk P w K mg base (L2.CX P w) 1 (T.ad 20) (T.fd 20) [(PySem.Str.ofString "_law_model_here"), (PySem.Str.ofString "_law_states"), (PySem.Str.ofString "_law_call_here")] (spD (LT T) 3 m_law_behind) := by
  refine fok T.F_law_behind sc_law_behind rfl (fun cdv A outer s H E hr => ?_)
  have tk : L2.Takes (cxOf (L2.CX P w) P w K mg base [(PySem.Str.ofString "_law_model_here"), (PySem.Str.ofString "_law_states"), (PySem.Str.ofString "_law_call_here"), (PySem.Str.ofString "_law_found"), (PySem.Str.ofString "_law_state"), (PySem.Str.ofString "_law_result"), (PySem.Str.ofString "_law_after")] (PySem.Str.ofString "_law_behind") (defScope (top 41)) (T.ad 20) cdv A outer s H E) (fun c dd _ H => E c dd H) := takes_of rfl rfl rfl rfl
  have po : PassesOwn (model P w) (cxOf (L2.CX P w) P w K mg base [(PySem.Str.ofString "_law_model_here"), (PySem.Str.ofString "_law_states"), (PySem.Str.ofString "_law_call_here"), (PySem.Str.ofString "_law_found"), (PySem.Str.ofString "_law_state"), (PySem.Str.ofString "_law_result"), (PySem.Str.ofString "_law_after")] (PySem.Str.ofString "_law_behind") (defScope (top 41)) (T.ad 20) cdv A outer s H E).A (cxOf (L2.CX P w) P w K mg base [(PySem.Str.ofString "_law_model_here"), (PySem.Str.ofString "_law_states"), (PySem.Str.ofString "_law_call_here"), (PySem.Str.ofString "_law_found"), (PySem.Str.ofString "_law_state"), (PySem.Str.ofString "_law_result"), (PySem.Str.ofString "_law_after")] (PySem.Str.ofString "_law_behind") (defScope (top 41)) (T.ad 20) cdv A outer s H E).env (cxOf (L2.CX P w) P w K mg base [(PySem.Str.ofString "_law_model_here"), (PySem.Str.ofString "_law_states"), (PySem.Str.ofString "_law_call_here"), (PySem.Str.ofString "_law_found"), (PySem.Str.ofString "_law_state"), (PySem.Str.ofString "_law_result"), (PySem.Str.ofString "_law_after")] (PySem.Str.ofString "_law_behind") (defScope (top 41)) (T.ad 20) cdv A outer s H E).xe := passes_of rfl
  exact (ss_cons (s_new sc_law_behind.nd (i := 3) rfl (by first | exact Or.inl rfl | exact Or.inr rfl) (f_lst a_nil))
  (ss_cons (s_for po rfl (i_val (d_v (pv 1))) (g_name (pg_name sc_law_behind.nd (i := 4) rfl (by first | exact Or.inl rfl | exact Or.inr rfl))) (ss_one (s_for po rfl (i_val (d_ix hr.units (d_ixQ hr.units (p_e (d_ixQ hr.units (p_e (d_ix hr.units (d_ixQ hr.units (p_q (q_v (pv 0))) q_int) (p_e (d_ixQ hr.units (p_q (q_v (pv 2))) q_int)))) q_int)) (q_v (pv 4))) (p_e (d_ixQ hr.units (p_q (q_v (pv 2))) q_int)))) (g_tup rfl (gs_cons (g_name (pg_name sc_law_behind.nd (i := 5) rfl (by first | exact Or.inl rfl | exact Or.inr rfl))) (gs_cons (g_name (pg_name sc_law_behind.nd (i := 6) rfl (by first | exact Or.inl rfl | exact Or.inr rfl))) gs_nil))) (ss_one (s_if (PW.pt (w_and (t_cmp (op_eqO hr.units) (d_v (pv 5)) (p_e (d_ixQ hr.units (p_q (q_v (pv 2))) q_int))) (w_and1 (t_cmpQ (op_notInO hr.units) (p_q (q_v (pv 6))) (q_v (pv 3)))))) (ss_one (s_expr (d_append (pv 3) (a_cons (d_v (pv 6)) a_nil)))) ss_nil)))))
  (ss_one (s_ret (d_fz (f_b1 (sorted_D hr.units) rfl T.n_sorted bt_sorted (p_q (q_v (pv 3)))))))))
theorem sc_law_calls : FnScope [(PySem.Str.ofString "_law_pool_here"), (PySem.Str.ofString "_law_model_here"), (PySem.Str.ofString "_law_many"), (PySem.Str.ofString "_law_states"), (PySem.Str.ofString "_law_calls_here"), (PySem.Str.ofString "_law_k"), (PySem.Str.ofString "_law_call_here"), (PySem.Str.ofString "_law_answers_here"), (PySem.Str.ofString "_law_state"), (PySem.Str.ofString "_law_answer")] [(PySem.Str.ofString "_law_pool_here"), (PySem.Str.ofString "_law_model_here"), (PySem.Str.ofString "_law_many")] (defScope (top 44)) := ⟨rfl, rfl, rfl, by decide +kernel, rfl, by decide +kernel, by decide +kernel⟩
theorem bn_law_calls (T : Txt K mg) : BnD K (LT T) (T.fd 21) [(PySem.Str.ofString "_law_pool_here"), (PySem.Str.ofString "_law_model_here"), (PySem.Str.ofString "_law_many")] 3 [] (fun ds _ => ds) := bn_all (T.F_law_calls.bindsN fun _ _ _ _ _ _ us hl => match us, hl with | [_, _, _], _ => rfl)
theorem ok_law_calls (T : Txt K mg) : FnOk P w K mg base (L2.CX P w) 3 (T.ad 21) (T.fd 21) [(PySem.Str.ofString "_law_pool_here"), (PySem.Str.ofString "_law_model_here"), (PySem.Str.ofString "_law_many")] (spD (LT T) 3 m_law_calls) := by
  refine fok T.F_law_calls sc_law_calls rfl (fun cdv A outer s H E hr => ?_)
  have tk : L2.Takes (cxOf (L2.CX P w) P w K mg base [(PySem.Str.ofString "_law_pool_here"), (PySem.Str.ofString "_law_model_here"), (PySem.Str.ofString "_law_many"), (PySem.Str.ofString "_law_states"), (PySem.Str.ofString "_law_calls_here"), (PySem.Str.ofString "_law_k"), (PySem.Str.ofString "_law_call_here"), (PySem.Str.ofString "_law_answers_here"), (PySem.Str.ofString "_law_state"), (PySem.Str.ofString "_law_answer")] (PySem.Str.ofString "_law_calls") (defScope (top 44)) (T.ad 21) cdv A outer s H E) (fun c dd _ H => E c dd H) := takes_of rfl rfl rfl rfl
  have po : PassesOwn (model P w) (cxOf (L2.CX P w) P w K mg base [(PySem.Str.ofString "_law_pool_here"), (PySem.Str.ofString "_law_model_here"), (PySem.Str.ofString "_law_many"), (PySem.Str.ofString "_law_states"), (PySem.Str.ofString "_law_calls_here"), (PySem.Str.ofString "_law_k"), (PySem.Str.ofString "_law_call_here"), (PySem.Str.ofString "_law_answers_here"), (PySem.Str.ofString "_law_state"), (PySem.Str.ofString "_law_answer")] (PySem.Str.ofString "_law_calls") (defScope (top 44)) (T.ad 21) cdv A outer s H E).A (cxOf (L2.CX P w) P w K mg base [(PySem.Str.ofString "_law_pool_here"), (PySem.Str.ofString "_law_model_here"), (PySem.Str.ofString "_law_many"), (PySem.Str.ofString "_law_states"), (PySem.Str.ofString "_law_calls_here"), (PySem.Str.ofString "_law_k"), (PySem.Str.ofString "_law_call_here"), (PySem.Str.ofString "_law_answers_here"), (PySem.Str.ofString "_law_state"), (PySem.Str.ofString "_law_answer")] (PySem.Str.ofString "_law_calls") (defScope (top 44)) (T.ad 21) cdv A outer s H E).env (cxOf (L2.CX P w) P w K mg base [(PySem.Str.ofString "_law_pool_here"), (PySem.Str.ofString "_law_model_here"), (PySem.Str.ofString "_law_many"), (PySem.Str.ofString "_law_states"), (PySem.Str.ofString "_law_calls_here"), (PySem.Str.ofString "_law_k"), (PySem.Str.ofString "_law_call_here"), (PySem.Str.ofString "_law_answers_here"), (PySem.Str.ofString "_law_state"), (PySem.Str.ofString "_law_answer")] (PySem.Str.ofString "_law_calls") (defScope (top 44)) (T.ad 21) cdv A outer s H E).xe := passes_of rfl
  exact (ss_cons (s_new sc_law_calls.nd (i := 3) rfl (by first | exact Or.inl rfl | exact Or.inr rfl) (f_lst (a_cons (d_ixQ hr.units (p_q (q_v (pv 1))) q_int) a_nil)))
  (ss_cons (s_new sc_law_calls.nd (i := 4) rfl (by first | exact Or.inl rfl | exact Or.inr rfl) (f_lst a_nil))
  (ss_cons (s_for po rfl (i_rng1 rfl T.n_range (a_cons (d_v (pv 2)) a_nil)) (g_name (pg_name sc_law_calls.nd (i := 5) rfl (by first | exact Or.inl rfl | exact Or.inr rfl))) (ss_cons (s_set sc_law_calls.nd (i := 6) rfl (by first | exact Or.inl rfl | exact Or.inr rfl) (d_call (ks := []) (ok_law_call T) (hr.mono (by decide)) tk rfl T.g__law_call T.F_law_call.kp (bn_law_call T) (cl_a (a_cons (d_v (pv 0)) (a_cons (d_v (pv 1)) a_nil)))))
  (ss_cons (s_new sc_law_calls.nd (i := 7) rfl (by first | exact Or.inl rfl | exact Or.inr rfl) (f_lst a_nil))
  (ss_cons (s_for po rfl (i_val (d_v (pv 3))) (g_name (pg_name sc_law_calls.nd (i := 8) rfl (by first | exact Or.inl rfl | exact Or.inr rfl))) (ss_one (s_set sc_law_calls.nd (i := 7) rfl (by first | exact Or.inl rfl | exact Or.inr rfl) (d_bin op_addO (d_v (pv 7)) (p_e (d_fz (f_lc rfl sc_law_calls.nd (i_val (d_ix hr.units (d_ixQ hr.units (p_e (d_ixQ hr.units (p_e (d_ix hr.units (d_ixQ hr.units (p_q (q_v (pv 1))) q_int) (p_e (d_ixQ hr.units (p_q (q_v (pv 6))) q_int)))) q_int)) (q_v (pv 8))) (p_e (d_ixQ hr.units (p_q (q_v (pv 6))) q_int)))) (own := [((PySem.Str.ofString "_law_answer"), 9)]) (by first | rfl | kernel_rfl) (by decide) (fun _ _ _ _ _ => (g_name (pg_name sc_law_calls.nd (i := 9) rfl (by first | exact Or.inl rfl | exact Or.inr rfl)))) (fun _ _ _ _ _ => ts_nil) (fun _ _ _ _ _ => (d_v (pv 9))))))))))
  (ss_cons (s_if (PW.pt (w_and (t_cmp op_gtO (d_b1 len_D rfl T.n_len bt_len (p_q (q_v (pv 7)))) (p_q q_int)) (w_and1 (t_cmp op_gtO (d_call (ks := []) (ok_law_draw T) (hr.mono (by decide)) tk rfl T.g__law_draw T.F_law_draw.kp (bn_law_draw T) (cl_a (a_cons (d_v (pv 0)) (a_cons d_int a_nil)))) (p_q q_int))))) (ss_one (s_set sc_law_calls.nd (i := 6) rfl (by first | exact Or.inl rfl | exact Or.inr rfl) (d_tup (a_cons (d_ixQ hr.units (p_q (q_v (pv 6))) q_int) (a_cons (d_ixQ hr.units (p_q (q_v (pv 6))) q_int) (a_cons (d_ixQ hr.units (p_e (d_ix hr.units (d_v (pv 7)) (p_e (d_call (ks := []) (ok_law_draw T) (hr.mono (by decide)) tk rfl T.g__law_draw T.F_law_draw.kp (bn_law_draw T) (cl_a (a_cons (d_v (pv 0)) (a_cons (d_b1 len_D rfl T.n_len bt_len (p_q (q_v (pv 7)))) a_nil))))))) q_int) a_nil)))))) ss_nil)
  (ss_cons (s_set sc_law_calls.nd (i := 3) rfl (by first | exact Or.inl rfl | exact Or.inr rfl) (d_call (ks := []) (ok_law_behind T) (hr.mono (by decide)) tk rfl T.g__law_behind T.F_law_behind.kp (bn_law_behind T) (cl_a (a_cons (d_v (pv 1)) (a_cons (d_v (pv 3)) (a_cons (d_v (pv 6)) a_nil))))))
  (ss_one (s_expr (d_append (pv 4) (a_cons (d_v (pv 6)) a_nil))))))))))
  (ss_one (s_ret (d_v (pv 4)))))))
theorem sc_law_same : FnScope [(PySem.Str.ofString "_law_actual"), (PySem.Str.ofString "_law_due"), (PySem.Str.ofString "_law_k")] [(PySem.Str.ofString "_law_actual"), (PySem.Str.ofString "_law_due")] (defScope (top 40)) := ⟨rfl, rfl, rfl, by decide +kernel, rfl, by decide +kernel, by decide +kernel⟩
theorem bn_law_same (T : Txt K mg) : BnD K (LT T) (T.fd 22) [(PySem.Str.ofString "_law_actual"), (PySem.Str.ofString "_law_due")] 2 [] (fun ds _ => ds) := bn_all (T.F_law_same.bindsN fun _ _ _ _ _ _ us hl => match us, hl with | [_, _], _ => rfl)
theorem ok_law_same (T : Txt K mg) : ∀ fuel : Nat, FnOk P w K mg base (L2.CX P w) (0 + fuel) (T.ad 22) (T.fd 22) [(PySem.Str.ofString "_law_actual"), (PySem.Str.ofString "_law_due")] (spD (LT T) 2 (m_law_same fuel))
  | 0 => fok0
  | fuel + 1 => by
    have ih := ok_law_same T fuel
    refine fok T.F_law_same sc_law_same rfl (fun cdv A outer s H E hr => ?_)
    have hr : Room (0 + fuel) _ := hr
    have tk : L2.Takes (cxOf (L2.CX P w) P w K mg base [(PySem.Str.ofString "_law_actual"), (PySem.Str.ofString "_law_due"), (PySem.Str.ofString "_law_k")] (PySem.Str.ofString "_law_same") (defScope (top 40)) (T.ad 22) cdv A outer s H E) (fun c dd _ H => E c dd H) := takes_of rfl rfl rfl rfl
    have po : PassesOwn (model P w) (cxOf (L2.CX P w) P w K mg base [(PySem.Str.ofString "_law_actual"), (PySem.Str.ofString "_law_due"), (PySem.Str.ofString "_law_k")] (PySem.Str.ofString "_law_same") (defScope (top 40)) (T.ad 22) cdv A outer s H E).A (cxOf (L2.CX P w) P w K mg base [(PySem.Str.ofString "_law_actual"), (PySem.Str.ofString "_law_due"), (PySem.Str.ofString "_law_k")] (PySem.Str.ofString "_law_same") (defScope (top 40)) (T.ad 22) cdv A outer s H E).env (cxOf (L2.CX P w) P w K mg base [(PySem.Str.ofString "_law_actual"), (PySem.Str.ofString "_law_due"), (PySem.Str.ofString "_law_k")] (PySem.Str.ofString "_law_same") (defScope (top 40)) (T.ad 22) cdv A outer s H E).xe := passes_of rfl
    exact (ss_cons (s_if (t_cmpQ op_isO (p_q (q_v (pv 1))) q_non) (ss_one (s_ret (d_cmpQ op_isO (p_q (q_v (pv 0))) q_non))) ss_nil)
  (ss_cons (s_if (PW.pt (w_or (t_val (d_isi (.ty _) (ia_bool T) rfl T.n_isinstance bt_isinstance (p_q (q_v (pv 1))) (pe_bltn rfl T.n_bool bt_bool rfl))) (w_or1 (t_val (d_isi (.ty _) (ia_bool T) rfl T.n_isinstance bt_isinstance (p_q (q_v (pv 0))) (pe_bltn rfl T.n_bool bt_bool rfl)))))) (ss_one (s_ret (d_and (d_isi (.ty _) (ia_bool T) rfl T.n_isinstance bt_isinstance (p_q (q_v (pv 1))) (pe_bltn rfl T.n_bool bt_bool rfl)) (d_and (d_isi (.ty _) (ia_bool T) rfl T.n_isinstance bt_isinstance (p_q (q_v (pv 0))) (pe_bltn rfl T.n_bool bt_bool rfl)) (d_one (d_cmpQ (op_eqO hr.units) (p_q (q_v (pv 0))) (q_v (pv 1)))))))) ss_nil)
  (ss_cons (s_if (t_val (d_isi (.ty _) (ia_int T) rfl T.n_isinstance bt_isinstance (p_q (q_v (pv 1))) (pe_bltn rfl T.n_int bt_int rfl))) (ss_one (s_ret (d_and (d_isi (.ty _) (ia_int T) rfl T.n_isinstance bt_isinstance (p_q (q_v (pv 0))) (pe_bltn rfl T.n_int bt_int rfl)) (d_one (d_cmpQ (op_eqO hr.units) (p_q (q_v (pv 0))) (q_v (pv 1))))))) ss_nil)
  (ss_cons (s_if (t_val (d_isi (.ty _) (ia_str T) rfl T.n_isinstance bt_isinstance (p_q (q_v (pv 1))) (pe_bltn rfl T.n_str bt_str rfl))) (ss_one (s_ret (d_and (d_isi (.ty _) (ia_str T) rfl T.n_isinstance bt_isinstance (p_q (q_v (pv 0))) (pe_bltn rfl T.n_str bt_str rfl)) (d_one (d_cmpQ (op_eqO hr.units) (p_q (q_v (pv 0))) (q_v (pv 1))))))) ss_nil)
  (ss_cons (s_if (PW.pt (w_or (t_cmp (op_neO hr.units) (d_isi (.ty _) (ia_list T) rfl T.n_isinstance bt_isinstance (p_q (q_v (pv 1))) (pe_bltn rfl T.n_list bt_list rfl)) (p_e (d_isi (.ty _) (ia_list T) rfl T.n_isinstance bt_isinstance (p_q (q_v (pv 0))) (pe_bltn rfl T.n_list bt_list rfl)))) (w_or1 (t_not (t_val (d_isiT ik_list_tuple (ia_list_tuple T) rfl T.n_isinstance bt_isinstance (p_q (q_v (pv 0))) (ipa_lt T.n_list T.n_tuple rfl rfl) (ipt_list_tuple) (by decide))))))) (ss_one (s_ret d_bl)) ss_nil)
  (ss_cons (s_if (t_cmp (op_neO hr.units) (d_b1 len_D rfl T.n_len bt_len (p_q (q_v (pv 0)))) (p_e (d_b1 len_D rfl T.n_len bt_len (p_q (q_v (pv 1)))))) (ss_one (s_ret d_bl)) ss_nil)
  (ss_one (s_ret (d_cmp (op_eqO hr.units) (d_b1 len_D rfl T.n_len bt_len (p_e (d_fz (f_lc rfl sc_law_same.nd (i_rng1 rfl T.n_range (a_cons (d_b1 len_D rfl T.n_len bt_len (p_q (q_v (pv 1)))) a_nil)) (own := [((PySem.Str.ofString "_law_k"), 2)]) (by first | rfl | kernel_rfl) (by decide) (fun _ _ _ _ _ => (g_name (pg_name sc_law_same.nd (i := 2) rfl (by first | exact Or.inl rfl | exact Or.inr rfl)))) (fun _ _ _ _ _ => (ts_one (t_not (t_val (d_call (ks := []) ih (hr.mono (by omega)) takes0 rfl T.g__law_same T.F_law_same.kp (bn_law_same T) (cl_a (a_cons (d_ixQ hr.units (p_q (q_v (pv 0))) (q_v (pv 2))) (a_cons (d_ixQ hr.units (p_q (q_v (pv 1))) (q_v (pv 2))) a_nil)))))))) (fun _ _ _ _ _ => (d_v (pv 2))))))) (p_q q_int))))))))))
theorem sc_BadCalls___init : FnScope [(PySem.Str.ofString "self"), (PySem.Str.ofString "index")] [(PySem.Str.ofString "self"), (PySem.Str.ofString "index")] (defScope (mem 7 0)) := ⟨rfl, rfl, rfl, by decide +kernel, rfl, by decide +kernel, by decide +kernel⟩
theorem okx_init_BadCalls (T : Txt K mg) : FnOk P w K mg base (L2.CX P w) 1 (T.ad 23) (T.fd 23) [(PySem.Str.ofString "self"), (PySem.Str.ofString "index")] (spX (T.ca 9) z_index) := by
  rw [← qz_index]
  exact fokX T.ox_BadCalls T.nx_BadCalls_index T.F_BadCalls___init sc_BadCalls___init rfl rfl fun cdv A outer s H E => pss_one (ps_ost (pv 0) (pv 1))
theorem bnx_BadCalls (T : Txt K mg) : Binds K (T.fd 23) [(PySem.Str.ofString "self"), (PySem.Str.ofString "index")] [] := T.F_BadCalls___init.bindsN fun _ _ _ _ _ _ us hl => match us, hl with | [_, _], _ => rfl
theorem sc_Kind___contains : FnScope [(PySem.Str.ofString "self"), (PySem.Str.ofString "method")] [(PySem.Str.ofString "self"), (PySem.Str.ofString "method")] (defScope (mem 30 1)) := ⟨rfl, rfl, rfl, by decide +kernel, rfl, by decide +kernel, by decide +kernel⟩
theorem bn_Kind___contains (T : Txt K mg) : BnD K (LT T) (T.fd 24) [(PySem.Str.ofString "self"), (PySem.Str.ofString "method")] 2 [] (fun ds _ => ds) := bn_all (T.F_Kind___contains.bindsN fun _ _ _ _ _ _ us hl => match us, hl with | [_, _], _ => rfl)
theorem ok_Kind___contains (T : Txt K mg) : FnOk P w K mg base (L2.CX P w) 1 (T.ad 24) (T.fd 24) [(PySem.Str.ofString "self"), (PySem.Str.ofString "method")] (spD (LT T) 2 m_Kind___contains) := by
  refine fok T.F_Kind___contains sc_Kind___contains rfl (fun cdv A outer s H E hr => ?_)
  have tk : L2.Takes (cxOf (L2.CX P w) P w K mg base [(PySem.Str.ofString "self"), (PySem.Str.ofString "method")] (PySem.Str.ofString "Kind.__contains__") (defScope (mem 30 1)) (T.ad 24) cdv A outer s H E) (fun c dd _ H => E c dd H) := takes_of rfl rfl rfl rfl
  have po : PassesOwn (model P w) (cxOf (L2.CX P w) P w K mg base [(PySem.Str.ofString "self"), (PySem.Str.ofString "method")] (PySem.Str.ofString "Kind.__contains__") (defScope (mem 30 1)) (T.ad 24) cdv A outer s H E).A (cxOf (L2.CX P w) P w K mg base [(PySem.Str.ofString "self"), (PySem.Str.ofString "method")] (PySem.Str.ofString "Kind.__contains__") (defScope (mem 30 1)) (T.ad 24) cdv A outer s H E).env (cxOf (L2.CX P w) P w K mg base [(PySem.Str.ofString "self"), (PySem.Str.ofString "method")] (PySem.Str.ofString "Kind.__contains__") (defScope (mem 30 1)) (T.ad 24) cdv A outer s H E).xe := passes_of rfl
  exact (ss_one (s_ret (d_and (d_isi (.ty _) (ia_str T) rfl T.n_isinstance bt_isinstance (p_q (q_v (pv 1))) (pe_bltn rfl T.n_str bt_str rfl)) (d_one (d_cmp (op_inO hr.units) (d_v (pv 1)) (p_e (d_fldL qz__methods (fl__methods T) (p_q (q_v (pv 0))))))))))
theorem dm___contains__ (T : Txt K mg) {A : Around} (hr : Room 1 A) : ∀ c m, disp___contains__ c = some m → MethD (P := P) (w := w) (mg := mg) (base := base) (A := A) (LT T) (PySem.Str.ofString "__contains__") 1 [] (fun ds _ => ds) c m := fun c m h => by
  unfold disp___contains__ at h
  split at h
  · rename_i hc
    subst hc
    cases h
    exact ⟨_, _, _, _, T.cl_Kind, T.me_Kind___contains__, (by first | rfl | kernel_rfl), ok_Kind___contains T, hr.mono (by decide), bn_Kind___contains T⟩
  cases h
theorem sc_NoMethod___init : FnScope [(PySem.Str.ofString "self"), (PySem.Str.ofString "method")] [(PySem.Str.ofString "self"), (PySem.Str.ofString "method")] (defScope (mem 4 0)) := ⟨rfl, rfl, rfl, by decide +kernel, rfl, by decide +kernel, by decide +kernel⟩
theorem okx_init_NoMethod (T : Txt K mg) : FnOk P w K mg base (L2.CX P w) 1 (T.ad 25) (T.fd 25) [(PySem.Str.ofString "self"), (PySem.Str.ofString "method")] (spX (T.ca 4) z_method) := by
  rw [← qz_method]
  exact fokX T.ox_NoMethod T.nx_NoMethod_method T.F_NoMethod___init sc_NoMethod___init rfl rfl fun cdv A outer s H E => pss_one (ps_ost (pv 0) (pv 1))
theorem bnx_NoMethod (T : Txt K mg) : Binds K (T.fd 25) [(PySem.Str.ofString "self"), (PySem.Str.ofString "method")] [] := T.F_NoMethod___init.bindsN fun _ _ _ _ _ _ us hl => match us, hl with | [_, _], _ => rfl
theorem sc_Kind__method : FnScope [(PySem.Str.ofString "self"), (PySem.Str.ofString "method")] [(PySem.Str.ofString "self"), (PySem.Str.ofString "method")] (defScope (mem 30 3)) := ⟨rfl, rfl, rfl, by decide +kernel, rfl, by decide +kernel, by decide +kernel⟩
theorem bn_Kind__method (T : Txt K mg) : BnD K (LT T) (T.fd 26) [(PySem.Str.ofString "self"), (PySem.Str.ofString "method")] 2 [] (fun ds _ => ds) := bn_all (T.F_Kind__method.bindsN fun _ _ _ _ _ _ us hl => match us, hl with | [_, _], _ => rfl)
theorem ok_Kind__method (T : Txt K mg) : FnOk P w K mg base (L2.CX P w) 3 (T.ad 26) (T.fd 26) [(PySem.Str.ofString "self"), (PySem.Str.ofString "method")] (spD (LT T) 2 m_Kind__method) := by
  refine fok T.F_Kind__method sc_Kind__method rfl (fun cdv A outer s H E hr => ?_)
  have tk : L2.Takes (cxOf (L2.CX P w) P w K mg base [(PySem.Str.ofString "self"), (PySem.Str.ofString "method")] (PySem.Str.ofString "Kind._method") (defScope (mem 30 3)) (T.ad 26) cdv A outer s H E) (fun c dd _ H => E c dd H) := takes_of rfl rfl rfl rfl
  have po : PassesOwn (model P w) (cxOf (L2.CX P w) P w K mg base [(PySem.Str.ofString "self"), (PySem.Str.ofString "method")] (PySem.Str.ofString "Kind._method") (defScope (mem 30 3)) (T.ad 26) cdv A outer s H E).A (cxOf (L2.CX P w) P w K mg base [(PySem.Str.ofString "self"), (PySem.Str.ofString "method")] (PySem.Str.ofString "Kind._method") (defScope (mem 30 3)) (T.ad 26) cdv A outer s H E).env (cxOf (L2.CX P w) P w K mg base [(PySem.Str.ofString "self"), (PySem.Str.ofString "method")] (PySem.Str.ofString "Kind._method") (defScope (mem 30 3)) (T.ad 26) cdv A outer s H E).xe := passes_of rfl
  exact (ss_cons (s_if (t_pc (c_notInO (dm___contains__ T (hr.mono (by decide))) tk (d_v (pv 1)) (d_v (pv 0))) rfl) (ss_one (s_raise (c := 4) rfl tk T.ox_NoMethod rfl T.iC_NoMethod T.tI_NoMethod (okx_init_NoMethod T) (hr.mono (by decide)) (bnx_NoMethod T) rfl T.g_NoMethod (a_cons (d_v (pv 1)) a_nil))) ss_nil)
  (ss_one (s_ret (d_ixQ hr.units (p_e (d_fldL qz__methods (fl__methods T) (p_q (q_v (pv 0))))) (q_v (pv 1))))))
theorem dm__method (T : Txt K mg) {A : Around} (hr : Room 3 A) : ∀ c m, disp__method c = some m → MethD (P := P) (w := w) (mg := mg) (base := base) (A := A) (LT T) (PySem.Str.ofString "_method") 1 [] (fun ds _ => ds) c m := fun c m h => by
  unfold disp__method at h
  split at h
  · rename_i hc
    subst hc
    cases h
    exact ⟨_, _, _, _, T.cl_Kind, T.me_Kind__method, (by first | rfl | kernel_rfl), ok_Kind__method T, hr.mono (by decide), bn_Kind__method T⟩
  cases h
theorem sc_NoState___init : FnScope [(PySem.Str.ofString "self"), (PySem.Str.ofString "state")] [(PySem.Str.ofString "self"), (PySem.Str.ofString "state")] (defScope (mem 5 0)) := ⟨rfl, rfl, rfl, by decide +kernel, rfl, by decide +kernel, by decide +kernel⟩
theorem okx_init_NoState (T : Txt K mg) : FnOk P w K mg base (L2.CX P w) 1 (T.ad 27) (T.fd 27) [(PySem.Str.ofString "self"), (PySem.Str.ofString "state")] (spX (T.ca 5) z_state) := by
  rw [← qz_state]
  exact fokX T.ox_NoState T.nx_NoState_state T.F_NoState___init sc_NoState___init rfl rfl fun cdv A outer s H E => pss_one (ps_ost (pv 0) (pv 1))
theorem bnx_NoState (T : Txt K mg) : Binds K (T.fd 27) [(PySem.Str.ofString "self"), (PySem.Str.ofString "state")] [] := T.F_NoState___init.bindsN fun _ _ _ _ _ _ us hl => match us, hl with | [_, _], _ => rfl
theorem sc_NoArgument___init : FnScope [(PySem.Str.ofString "self"), (PySem.Str.ofString "argument")] [(PySem.Str.ofString "self"), (PySem.Str.ofString "argument")] (defScope (mem 6 0)) := ⟨rfl, rfl, rfl, by decide +kernel, rfl, by decide +kernel, by decide +kernel⟩
theorem okx_init_NoArgument (T : Txt K mg) : FnOk P w K mg base (L2.CX P w) 1 (T.ad 28) (T.fd 28) [(PySem.Str.ofString "self"), (PySem.Str.ofString "argument")] (spX (T.ca 6) z_argument) := by
  rw [← qz_argument]
  exact fokX T.ox_NoArgument T.nx_NoArgument_argument T.F_NoArgument___init sc_NoArgument___init rfl rfl fun cdv A outer s H E => pss_one (ps_ost (pv 0) (pv 1))
theorem bnx_NoArgument (T : Txt K mg) : Binds K (T.fd 28) [(PySem.Str.ofString "self"), (PySem.Str.ofString "argument")] [] := T.F_NoArgument___init.bindsN fun _ _ _ _ _ _ us hl => match us, hl with | [_, _], _ => rfl
theorem sc_Kind_answers : FnScope [(PySem.Str.ofString "self"), (PySem.Str.ofString "state"), (PySem.Str.ofString "method"), (PySem.Str.ofString "argument"), (PySem.Str.ofString "arguments"), (PySem.Str.ofString "results"), (PySem.Str.ofString "rows")] [(PySem.Str.ofString "self"), (PySem.Str.ofString "state"), (PySem.Str.ofString "method"), (PySem.Str.ofString "argument")] (defScope (mem 30 7)) := ⟨rfl, rfl, rfl, by decide +kernel, rfl, by decide +kernel, by decide +kernel⟩
theorem bn_Kind_answers (T : Txt K mg) : BnD K (LT T) (T.fd 29) [(PySem.Str.ofString "self"), (PySem.Str.ofString "state"), (PySem.Str.ofString "method"), (PySem.Str.ofString "argument")] 4 [] (fun ds _ => ds) := bn_all (T.F_Kind_answers.bindsN fun _ _ _ _ _ _ us hl => match us, hl with | [_, _, _, _], _ => rfl)
theorem ok_Kind_answers (T : Txt K mg) : FnOk P w K mg base (L2.CX P w) 4 (T.ad 29) (T.fd 29) [(PySem.Str.ofString "self"), (PySem.Str.ofString "state"), (PySem.Str.ofString "method"), (PySem.Str.ofString "argument")] (spD (LT T) 4 m_Kind_answers) := by
  refine fok T.F_Kind_answers sc_Kind_answers rfl (fun cdv A outer s H E hr => ?_)
  have tk : L2.Takes (cxOf (L2.CX P w) P w K mg base [(PySem.Str.ofString "self"), (PySem.Str.ofString "state"), (PySem.Str.ofString "method"), (PySem.Str.ofString "argument"), (PySem.Str.ofString "arguments"), (PySem.Str.ofString "results"), (PySem.Str.ofString "rows")] (PySem.Str.ofString "Kind.answers") (defScope (mem 30 7)) (T.ad 29) cdv A outer s H E) (fun c dd _ H => E c dd H) := takes_of rfl rfl rfl rfl
  have po : PassesOwn (model P w) (cxOf (L2.CX P w) P w K mg base [(PySem.Str.ofString "self"), (PySem.Str.ofString "state"), (PySem.Str.ofString "method"), (PySem.Str.ofString "argument"), (PySem.Str.ofString "arguments"), (PySem.Str.ofString "results"), (PySem.Str.ofString "rows")] (PySem.Str.ofString "Kind.answers") (defScope (mem 30 7)) (T.ad 29) cdv A outer s H E).A (cxOf (L2.CX P w) P w K mg base [(PySem.Str.ofString "self"), (PySem.Str.ofString "state"), (PySem.Str.ofString "method"), (PySem.Str.ofString "argument"), (PySem.Str.ofString "arguments"), (PySem.Str.ofString "results"), (PySem.Str.ofString "rows")] (PySem.Str.ofString "Kind.answers") (defScope (mem 30 7)) (T.ad 29) cdv A outer s H E).env (cxOf (L2.CX P w) P w K mg base [(PySem.Str.ofString "self"), (PySem.Str.ofString "state"), (PySem.Str.ofString "method"), (PySem.Str.ofString "argument"), (PySem.Str.ofString "arguments"), (PySem.Str.ofString "results"), (PySem.Str.ofString "rows")] (PySem.Str.ofString "Kind.answers") (defScope (mem 30 7)) (T.ad 29) cdv A outer s H E).xe := passes_of rfl
  exact (ss_cons (s_if (t_not (t_val (d_call (ks := []) (ok_is_between T) (hr.mono (by decide)) tk rfl T.g_is_between T.F_is_between.kp (bn_is_between T) (cl_a (a_cons (d_v (pv 1)) (a_cons d_int (a_cons (d_bin op_subO (d_fldL qz_states (fl_states T) (p_q (q_v (pv 0)))) (p_q q_int)) a_nil))))))) (ss_one (s_raise (c := 5) rfl tk T.ox_NoState rfl T.iC_NoState T.tI_NoState (okx_init_NoState T) (hr.mono (by decide)) (bnx_NoState T) rfl T.g_NoState (a_cons (d_v (pv 1)) a_nil))) ss_nil)
  (ss_cons (s_asg (d_meth (ks := []) (dm__method T (hr.mono (by decide))) tk (d_v (pv 0)) (cl_a (a_cons (d_v (pv 2)) a_nil))) (g_tup rfl (gs_cons (g_name (pg_name sc_Kind_answers.nd (i := 4) rfl (by first | exact Or.inl rfl | exact Or.inr rfl))) (gs_cons (g_name (pg_name sc_Kind_answers.nd (i := 5) rfl (by first | exact Or.inl rfl | exact Or.inr rfl))) (gs_cons (g_name (pg_name sc_Kind_answers.nd (i := 6) rfl (by first | exact Or.inl rfl | exact Or.inr rfl))) gs_nil)))))
  (ss_cons (s_if (t_not (t_val (d_call (ks := []) (ok_is_between T) (hr.mono (by decide)) tk rfl T.g_is_between T.F_is_between.kp (bn_is_between T) (cl_a (a_cons (d_v (pv 3)) (a_cons d_int (a_cons (d_binQ op_subO (p_q (q_v (pv 4))) q_int) a_nil))))))) (ss_one (s_raise (c := 6) rfl tk T.ox_NoArgument rfl T.iC_NoArgument T.tI_NoArgument (okx_init_NoArgument T) (hr.mono (by decide)) (bnx_NoArgument T) rfl T.g_NoArgument (a_cons (d_v (pv 3)) a_nil))) ss_nil)
  (ss_one (s_ret (d_ixQ hr.units (p_e (d_ixQ hr.units (p_q (q_v (pv 6))) (q_v (pv 1)))) (q_v (pv 3))))))))
theorem dm_answers (T : Txt K mg) {A : Around} (hr : Room 4 A) : ∀ c m, disp_answers c = some m → MethD (P := P) (w := w) (mg := mg) (base := base) (A := A) (LT T) (PySem.Str.ofString "answers") 3 [] (fun ds _ => ds) c m := fun c m h => by
  unfold disp_answers at h
  split at h
  · rename_i hc
    subst hc
    cases h
    exact ⟨_, _, _, _, T.cl_Kind, T.me_Kind_answers, (by first | rfl | kernel_rfl), ok_Kind_answers T, hr.mono (by decide), bn_Kind_answers T⟩
  cases h
theorem sc_states_behind : FnScope [(PySem.Str.ofString "kind"), (PySem.Str.ofString "states"), (PySem.Str.ofString "call"), (PySem.Str.ofString "method"), (PySem.Str.ofString "argument"), (PySem.Str.ofString "told"), (PySem.Str.ofString "found"), (PySem.Str.ofString "state"), (PySem.Str.ofString "result"), (PySem.Str.ofString "behind")] [(PySem.Str.ofString "kind"), (PySem.Str.ofString "states"), (PySem.Str.ofString "call")] (defScope (top 19)) := ⟨rfl, rfl, rfl, by decide +kernel, rfl, by decide +kernel, by decide +kernel⟩
theorem bn_states_behind (T : Txt K mg) : BnD K (LT T) (T.fd 30) [(PySem.Str.ofString "kind"), (PySem.Str.ofString "states"), (PySem.Str.ofString "call")] 3 [] (fun ds _ => ds) := bn_all (T.F_states_behind.bindsN fun _ _ _ _ _ _ us hl => match us, hl with | [_, _, _], _ => rfl)
theorem ok_states_behind (T : Txt K mg) : FnOk P w K mg base (L2.CX P w) 5 (T.ad 30) (T.fd 30) [(PySem.Str.ofString "kind"), (PySem.Str.ofString "states"), (PySem.Str.ofString "call")] (spD (LT T) 3 m_states_behind) := by
  refine fok T.F_states_behind sc_states_behind rfl (fun cdv A outer s H E hr => ?_)
  have tk : L2.Takes (cxOf (L2.CX P w) P w K mg base [(PySem.Str.ofString "kind"), (PySem.Str.ofString "states"), (PySem.Str.ofString "call"), (PySem.Str.ofString "method"), (PySem.Str.ofString "argument"), (PySem.Str.ofString "told"), (PySem.Str.ofString "found"), (PySem.Str.ofString "state"), (PySem.Str.ofString "result"), (PySem.Str.ofString "behind")] (PySem.Str.ofString "states_behind") (defScope (top 19)) (T.ad 30) cdv A outer s H E) (fun c dd _ H => E c dd H) := takes_of rfl rfl rfl rfl
  have po : PassesOwn (model P w) (cxOf (L2.CX P w) P w K mg base [(PySem.Str.ofString "kind"), (PySem.Str.ofString "states"), (PySem.Str.ofString "call"), (PySem.Str.ofString "method"), (PySem.Str.ofString "argument"), (PySem.Str.ofString "told"), (PySem.Str.ofString "found"), (PySem.Str.ofString "state"), (PySem.Str.ofString "result"), (PySem.Str.ofString "behind")] (PySem.Str.ofString "states_behind") (defScope (top 19)) (T.ad 30) cdv A outer s H E).A (cxOf (L2.CX P w) P w K mg base [(PySem.Str.ofString "kind"), (PySem.Str.ofString "states"), (PySem.Str.ofString "call"), (PySem.Str.ofString "method"), (PySem.Str.ofString "argument"), (PySem.Str.ofString "told"), (PySem.Str.ofString "found"), (PySem.Str.ofString "state"), (PySem.Str.ofString "result"), (PySem.Str.ofString "behind")] (PySem.Str.ofString "states_behind") (defScope (top 19)) (T.ad 30) cdv A outer s H E).env (cxOf (L2.CX P w) P w K mg base [(PySem.Str.ofString "kind"), (PySem.Str.ofString "states"), (PySem.Str.ofString "call"), (PySem.Str.ofString "method"), (PySem.Str.ofString "argument"), (PySem.Str.ofString "told"), (PySem.Str.ofString "found"), (PySem.Str.ofString "state"), (PySem.Str.ofString "result"), (PySem.Str.ofString "behind")] (PySem.Str.ofString "states_behind") (defScope (top 19)) (T.ad 30) cdv A outer s H E).xe := passes_of rfl
  exact (ss_cons (s_asg (d_v (pv 2)) (g_tup rfl (gs_cons (g_name (pg_name sc_states_behind.nd (i := 3) rfl (by first | exact Or.inl rfl | exact Or.inr rfl))) (gs_cons (g_name (pg_name sc_states_behind.nd (i := 4) rfl (by first | exact Or.inl rfl | exact Or.inr rfl))) (gs_cons (g_name (pg_name sc_states_behind.nd (i := 5) rfl (by first | exact Or.inl rfl | exact Or.inr rfl))) gs_nil)))))
  (ss_cons (s_new sc_states_behind.nd (i := 6) rfl (by first | exact Or.inl rfl | exact Or.inr rfl) f_dctK)
  (ss_cons (s_for po rfl (i_val (d_v (pv 1))) (g_name (pg_name sc_states_behind.nd (i := 7) rfl (by first | exact Or.inl rfl | exact Or.inr rfl))) (ss_one (s_for po rfl (i_val (d_meth (ks := []) (dm_answers T (hr.mono (by decide))) tk (d_v (pv 0)) (cl_a (a_cons (d_v (pv 7)) (a_cons (d_v (pv 3)) (a_cons (d_v (pv 4)) a_nil)))))) (g_tup rfl (gs_cons (g_name (pg_name sc_states_behind.nd (i := 8) rfl (by first | exact Or.inl rfl | exact Or.inr rfl))) (gs_cons (g_name (pg_name sc_states_behind.nd (i := 9) rfl (by first | exact Or.inl rfl | exact Or.inr rfl))) gs_nil))) (ss_one (s_if (t_cmpQ (op_eqO hr.units) (p_q (q_v (pv 8))) (q_v (pv 5))) (ss_one (s_put (ru1 hr) (pv 6) (d_v (pv 9)) d_bl)) ss_nil)))))
  (ss_one (s_ret (d_t1 tuple_D rfl T.n_tuple bt_tuple (p_e (d_fz (f_b1 (sorted_D hr.units) rfl T.n_sorted bt_sorted (p_e (d_fz (f_t1 (list_D rfl) rfl T.n_list bt_list (p_q (q_v (pv 6)))))))))))))))
theorem sc_Kind_results : FnScope [(PySem.Str.ofString "self"), (PySem.Str.ofString "method")] [(PySem.Str.ofString "self"), (PySem.Str.ofString "method")] (defScope (mem 30 6)) := ⟨rfl, rfl, rfl, by decide +kernel, rfl, by decide +kernel, by decide +kernel⟩
theorem bn_Kind_results (T : Txt K mg) : BnD K (LT T) (T.fd 31) [(PySem.Str.ofString "self"), (PySem.Str.ofString "method")] 2 [] (fun ds _ => ds) := bn_all (T.F_Kind_results.bindsN fun _ _ _ _ _ _ us hl => match us, hl with | [_, _], _ => rfl)
theorem ok_Kind_results (T : Txt K mg) : FnOk P w K mg base (L2.CX P w) 4 (T.ad 31) (T.fd 31) [(PySem.Str.ofString "self"), (PySem.Str.ofString "method")] (spD (LT T) 2 m_Kind_results) := by
  refine fok T.F_Kind_results sc_Kind_results rfl (fun cdv A outer s H E hr => ?_)
  have tk : L2.Takes (cxOf (L2.CX P w) P w K mg base [(PySem.Str.ofString "self"), (PySem.Str.ofString "method")] (PySem.Str.ofString "Kind.results") (defScope (mem 30 6)) (T.ad 31) cdv A outer s H E) (fun c dd _ H => E c dd H) := takes_of rfl rfl rfl rfl
  have po : PassesOwn (model P w) (cxOf (L2.CX P w) P w K mg base [(PySem.Str.ofString "self"), (PySem.Str.ofString "method")] (PySem.Str.ofString "Kind.results") (defScope (mem 30 6)) (T.ad 31) cdv A outer s H E).A (cxOf (L2.CX P w) P w K mg base [(PySem.Str.ofString "self"), (PySem.Str.ofString "method")] (PySem.Str.ofString "Kind.results") (defScope (mem 30 6)) (T.ad 31) cdv A outer s H E).env (cxOf (L2.CX P w) P w K mg base [(PySem.Str.ofString "self"), (PySem.Str.ofString "method")] (PySem.Str.ofString "Kind.results") (defScope (mem 30 6)) (T.ad 31) cdv A outer s H E).xe := passes_of rfl
  exact (ss_one (s_ret (d_ixQ hr.units (p_e (d_meth (ks := []) (dm__method T (hr.mono (by decide))) tk (d_v (pv 0)) (cl_a (a_cons (d_v (pv 1)) a_nil)))) q_int)))
theorem dm_results (T : Txt K mg) {A : Around} (hr : Room 4 A) : ∀ c m, disp_results c = some m → MethD (P := P) (w := w) (mg := mg) (base := base) (A := A) (LT T) (PySem.Str.ofString "results") 1 [] (fun ds _ => ds) c m := fun c m h => by
  unfold disp_results at h
  split at h
  · rename_i hc
    subst hc
    cases h
    exact ⟨_, _, _, _, T.cl_Kind, T.me_Kind_results, (by first | rfl | kernel_rfl), ok_Kind_results T, hr.mono (by decide), bn_Kind_results T⟩
  cases h
theorem sc_Kind_arguments : FnScope [(PySem.Str.ofString "self"), (PySem.Str.ofString "method")] [(PySem.Str.ofString "self"), (PySem.Str.ofString "method")] (defScope (mem 30 5)) := ⟨rfl, rfl, rfl, by decide +kernel, rfl, by decide +kernel, by decide +kernel⟩
theorem bn_Kind_arguments (T : Txt K mg) : BnD K (LT T) (T.fd 32) [(PySem.Str.ofString "self"), (PySem.Str.ofString "method")] 2 [] (fun ds _ => ds) := bn_all (T.F_Kind_arguments.bindsN fun _ _ _ _ _ _ us hl => match us, hl with | [_, _], _ => rfl)
theorem ok_Kind_arguments (T : Txt K mg) : FnOk P w K mg base (L2.CX P w) 4 (T.ad 32) (T.fd 32) [(PySem.Str.ofString "self"), (PySem.Str.ofString "method")] (spD (LT T) 2 m_Kind_arguments) := by
  refine fok T.F_Kind_arguments sc_Kind_arguments rfl (fun cdv A outer s H E hr => ?_)
  have tk : L2.Takes (cxOf (L2.CX P w) P w K mg base [(PySem.Str.ofString "self"), (PySem.Str.ofString "method")] (PySem.Str.ofString "Kind.arguments") (defScope (mem 30 5)) (T.ad 32) cdv A outer s H E) (fun c dd _ H => E c dd H) := takes_of rfl rfl rfl rfl
  have po : PassesOwn (model P w) (cxOf (L2.CX P w) P w K mg base [(PySem.Str.ofString "self"), (PySem.Str.ofString "method")] (PySem.Str.ofString "Kind.arguments") (defScope (mem 30 5)) (T.ad 32) cdv A outer s H E).A (cxOf (L2.CX P w) P w K mg base [(PySem.Str.ofString "self"), (PySem.Str.ofString "method")] (PySem.Str.ofString "Kind.arguments") (defScope (mem 30 5)) (T.ad 32) cdv A outer s H E).env (cxOf (L2.CX P w) P w K mg base [(PySem.Str.ofString "self"), (PySem.Str.ofString "method")] (PySem.Str.ofString "Kind.arguments") (defScope (mem 30 5)) (T.ad 32) cdv A outer s H E).xe := passes_of rfl
  exact (ss_one (s_ret (d_ixQ hr.units (p_e (d_meth (ks := []) (dm__method T (hr.mono (by decide))) tk (d_v (pv 0)) (cl_a (a_cons (d_v (pv 1)) a_nil)))) q_int)))
theorem dm_arguments (T : Txt K mg) {A : Around} (hr : Room 4 A) : ∀ c m, disp_arguments c = some m → MethD (P := P) (w := w) (mg := mg) (base := base) (A := A) (LT T) (PySem.Str.ofString "arguments") 1 [] (fun ds _ => ds) c m := fun c m h => by
  unfold disp_arguments at h
  split at h
  · rename_i hc
    subst hc
    cases h
    exact ⟨_, _, _, _, T.cl_Kind, T.me_Kind_arguments, (by first | rfl | kernel_rfl), ok_Kind_arguments T, hr.mono (by decide), bn_Kind_arguments T⟩
  cases h
theorem sc_is_told_call : FnScope [(PySem.Str.ofString "kind"), (PySem.Str.ofString "value")] [(PySem.Str.ofString "kind"), (PySem.Str.ofString "value")] (defScope (top 18)) := ⟨rfl, rfl, rfl, by decide +kernel, rfl, by decide +kernel, by decide +kernel⟩
theorem bn_is_told_call (T : Txt K mg) : BnD K (LT T) (T.fd 33) [(PySem.Str.ofString "kind"), (PySem.Str.ofString "value")] 2 [] (fun ds _ => ds) := bn_all (T.F_is_told_call.bindsN fun _ _ _ _ _ _ us hl => match us, hl with | [_, _], _ => rfl)
theorem ok_is_told_call (T : Txt K mg) : FnOk P w K mg base (L2.CX P w) 5 (T.ad 33) (T.fd 33) [(PySem.Str.ofString "kind"), (PySem.Str.ofString "value")] (spD (LT T) 2 m_is_told_call) := by
  refine fok T.F_is_told_call sc_is_told_call rfl (fun cdv A outer s H E hr => ?_)
  have tk : L2.Takes (cxOf (L2.CX P w) P w K mg base [(PySem.Str.ofString "kind"), (PySem.Str.ofString "value")] (PySem.Str.ofString "is_told_call") (defScope (top 18)) (T.ad 33) cdv A outer s H E) (fun c dd _ H => E c dd H) := takes_of rfl rfl rfl rfl
  have po : PassesOwn (model P w) (cxOf (L2.CX P w) P w K mg base [(PySem.Str.ofString "kind"), (PySem.Str.ofString "value")] (PySem.Str.ofString "is_told_call") (defScope (top 18)) (T.ad 33) cdv A outer s H E).A (cxOf (L2.CX P w) P w K mg base [(PySem.Str.ofString "kind"), (PySem.Str.ofString "value")] (PySem.Str.ofString "is_told_call") (defScope (top 18)) (T.ad 33) cdv A outer s H E).env (cxOf (L2.CX P w) P w K mg base [(PySem.Str.ofString "kind"), (PySem.Str.ofString "value")] (PySem.Str.ofString "is_told_call") (defScope (top 18)) (T.ad 33) cdv A outer s H E).xe := passes_of rfl
  exact (ss_cons (s_if (PW.pt (w_or (t_not (t_val (d_call (ks := []) (ok_is_row_of T) (hr.mono (by decide)) tk rfl T.g_is_row_of T.F_is_row_of.kp (bn_is_row_of T) (cl_a (a_cons (d_v (pv 1)) (a_cons d_int (a_cons d_int a_nil))))))) (w_or1 (t_pc (c_notInO (dm___contains__ T (hr.mono (by decide))) tk (d_ixQ hr.units (p_q (q_v (pv 1))) q_int) (d_v (pv 0))) rfl)))) (ss_one (s_ret d_bl)) ss_nil)
  (ss_cons (s_if (t_not (t_val (d_call (ks := []) (ok_is_between T) (hr.mono (by decide)) tk rfl T.g_is_between T.F_is_between.kp (bn_is_between T) (cl_a (a_cons (d_ixQ hr.units (p_q (q_v (pv 1))) q_int) (a_cons d_int (a_cons (d_bin op_subO (d_meth (ks := []) (dm_arguments T (hr.mono (by decide))) tk (d_v (pv 0)) (cl_a (a_cons (d_ixQ hr.units (p_q (q_v (pv 1))) q_int) a_nil))) (p_q q_int)) a_nil))))))) (ss_one (s_ret d_bl)) ss_nil)
  (ss_one (s_ret (d_call (ks := []) (ok_is_between T) (hr.mono (by decide)) tk rfl T.g_is_between T.F_is_between.kp (bn_is_between T) (cl_a (a_cons (d_ixQ hr.units (p_q (q_v (pv 1))) q_int) (a_cons d_int (a_cons (d_bin op_subO (d_meth (ks := []) (dm_results T (hr.mono (by decide))) tk (d_v (pv 0)) (cl_a (a_cons (d_ixQ hr.units (p_q (q_v (pv 1))) q_int) a_nil))) (p_q q_int)) a_nil)))))))))
theorem sc_reached : FnScope [(PySem.Str.ofString "kind"), (PySem.Str.ofString "calls"), (PySem.Str.ofString "index"), (PySem.Str.ofString "call"), (PySem.Str.ofString "states")] [(PySem.Str.ofString "kind"), (PySem.Str.ofString "calls")] (defScope (top 20)) := ⟨rfl, rfl, rfl, by decide +kernel, rfl, by decide +kernel, by decide +kernel⟩
theorem bn_reached (T : Txt K mg) : BnD K (LT T) (T.fd 34) [(PySem.Str.ofString "kind"), (PySem.Str.ofString "calls")] 2 [] (fun ds _ => ds) := bn_all (T.F_reached.bindsN fun _ _ _ _ _ _ us hl => match us, hl with | [_, _], _ => rfl)
theorem ok_reached (T : Txt K mg) : FnOk P w K mg base (L2.CX P w) 6 (T.ad 34) (T.fd 34) [(PySem.Str.ofString "kind"), (PySem.Str.ofString "calls")] (spD (LT T) 2 m_reached) := by
  refine fok T.F_reached sc_reached rfl (fun cdv A outer s H E hr => ?_)
  have tk : L2.Takes (cxOf (L2.CX P w) P w K mg base [(PySem.Str.ofString "kind"), (PySem.Str.ofString "calls"), (PySem.Str.ofString "index"), (PySem.Str.ofString "call"), (PySem.Str.ofString "states")] (PySem.Str.ofString "reached") (defScope (top 20)) (T.ad 34) cdv A outer s H E) (fun c dd _ H => E c dd H) := takes_of rfl rfl rfl rfl
  have po : PassesOwn (model P w) (cxOf (L2.CX P w) P w K mg base [(PySem.Str.ofString "kind"), (PySem.Str.ofString "calls"), (PySem.Str.ofString "index"), (PySem.Str.ofString "call"), (PySem.Str.ofString "states")] (PySem.Str.ofString "reached") (defScope (top 20)) (T.ad 34) cdv A outer s H E).A (cxOf (L2.CX P w) P w K mg base [(PySem.Str.ofString "kind"), (PySem.Str.ofString "calls"), (PySem.Str.ofString "index"), (PySem.Str.ofString "call"), (PySem.Str.ofString "states")] (PySem.Str.ofString "reached") (defScope (top 20)) (T.ad 34) cdv A outer s H E).env (cxOf (L2.CX P w) P w K mg base [(PySem.Str.ofString "kind"), (PySem.Str.ofString "calls"), (PySem.Str.ofString "index"), (PySem.Str.ofString "call"), (PySem.Str.ofString "states")] (PySem.Str.ofString "reached") (defScope (top 20)) (T.ad 34) cdv A outer s H E).xe := passes_of rfl
  exact (ss_cons (s_if (t_not (t_val (d_call (ks := []) (ok_is_row_of T) (hr.mono (by decide)) tk rfl T.g_is_row_of T.F_is_row_of.kp (bn_is_row_of T) (cl_a (a_cons (d_v (pv 1)) (a_cons d_int (a_cons (d_glob (v := .int 60) rfl (cz_MOST_CALLS T).choose_spec ⟨_, rfl⟩ (fun _ _ => rfl)) a_nil))))))) (ss_one (s_raise (c := 9) rfl tk T.ox_BadCalls rfl T.iC_BadCalls T.tI_BadCalls (okx_init_BadCalls T) (hr.mono (by decide)) (bnx_BadCalls T) rfl T.g_BadCalls (a_cons (d_neg d_int) a_nil))) ss_nil)
  (ss_cons (s_for po rfl (i_enum rfl T.n_enumerate (d_v (pv 1))) (g_tup rfl (gs_cons (g_name (pg_name sc_reached.nd (i := 2) rfl (by first | exact Or.inl rfl | exact Or.inr rfl))) (gs_cons (g_name (pg_name sc_reached.nd (i := 3) rfl (by first | exact Or.inl rfl | exact Or.inr rfl))) gs_nil))) (ss_one (s_if (t_not (t_val (d_call (ks := []) (ok_is_told_call T) (hr.mono (by decide)) tk rfl T.g_is_told_call T.F_is_told_call.kp (bn_is_told_call T) (cl_a (a_cons (d_v (pv 0)) (a_cons (d_v (pv 3)) a_nil)))))) (ss_one (s_raise (c := 9) rfl tk T.ox_BadCalls rfl T.iC_BadCalls T.tI_BadCalls (okx_init_BadCalls T) (hr.mono (by decide)) (bnx_BadCalls T) rfl T.g_BadCalls (a_cons (d_v (pv 2)) a_nil))) ss_nil)))
  (ss_cons (s_set sc_reached.nd (i := 4) rfl (by first | exact Or.inl rfl | exact Or.inr rfl) (d_tup (a_cons (d_fldL qz_start (fl_start T) (p_q (q_v (pv 0)))) a_nil)))
  (ss_cons (s_for po rfl (i_val (d_v (pv 1))) (g_name (pg_name sc_reached.nd (i := 3) rfl (by first | exact Or.inl rfl | exact Or.inr rfl))) (ss_one (s_set sc_reached.nd (i := 4) rfl (by first | exact Or.inl rfl | exact Or.inr rfl) (d_call (ks := []) (ok_states_behind T) (hr.mono (by decide)) tk rfl T.g_states_behind T.F_states_behind.kp (bn_states_behind T) (cl_a (a_cons (d_v (pv 0)) (a_cons (d_v (pv 4)) (a_cons (d_v (pv 3)) a_nil))))))))
  (ss_one (s_ret (d_v (pv 4))))))))
theorem sc_law_refused : FnScope [(PySem.Str.ofString "_law_kind_here"), (PySem.Str.ofString "_law_calls_here"), (PySem.Str.ofString "_law_told"), (PySem.Str.ofString "e")] [(PySem.Str.ofString "_law_kind_here"), (PySem.Str.ofString "_law_calls_here")] (defScope (top 45)) := ⟨rfl, rfl, rfl, by decide +kernel, rfl, by decide +kernel, by decide +kernel⟩
theorem bn_law_refused (T : Txt K mg) : BnD K (LT T) (T.fd 35) [(PySem.Str.ofString "_law_kind_here"), (PySem.Str.ofString "_law_calls_here")] 2 [] (fun ds _ => ds) := bn_all (T.F_law_refused.bindsN fun _ _ _ _ _ _ us hl => match us, hl with | [_, _], _ => rfl)
theorem ok_law_refused (T : Txt K mg) : FnOk P w K mg base (L2.CX P w) 7 (T.ad 35) (T.fd 35) [(PySem.Str.ofString "_law_kind_here"), (PySem.Str.ofString "_law_calls_here")] (spD (LT T) 2 m_law_refused) := by
  refine fok T.F_law_refused sc_law_refused rfl (fun cdv A outer s H E hr => ?_)
  have tk : L2.Takes (cxOf (L2.CX P w) P w K mg base [(PySem.Str.ofString "_law_kind_here"), (PySem.Str.ofString "_law_calls_here"), (PySem.Str.ofString "_law_told"), (PySem.Str.ofString "e")] (PySem.Str.ofString "_law_refused") (defScope (top 45)) (T.ad 35) cdv A outer s H E) (fun c dd _ H => E c dd H) := takes_of rfl rfl rfl rfl
  have po : PassesOwn (model P w) (cxOf (L2.CX P w) P w K mg base [(PySem.Str.ofString "_law_kind_here"), (PySem.Str.ofString "_law_calls_here"), (PySem.Str.ofString "_law_told"), (PySem.Str.ofString "e")] (PySem.Str.ofString "_law_refused") (defScope (top 45)) (T.ad 35) cdv A outer s H E).A (cxOf (L2.CX P w) P w K mg base [(PySem.Str.ofString "_law_kind_here"), (PySem.Str.ofString "_law_calls_here"), (PySem.Str.ofString "_law_told"), (PySem.Str.ofString "e")] (PySem.Str.ofString "_law_refused") (defScope (top 45)) (T.ad 35) cdv A outer s H E).env (cxOf (L2.CX P w) P w K mg base [(PySem.Str.ofString "_law_kind_here"), (PySem.Str.ofString "_law_calls_here"), (PySem.Str.ofString "_law_told"), (PySem.Str.ofString "e")] (PySem.Str.ofString "_law_refused") (defScope (top 45)) (T.ad 35) cdv A outer s H E).xe := passes_of rfl
  exact (ss_cons (s_set sc_law_refused.nd (i := 2) rfl (by first | exact Or.inl rfl | exact Or.inr rfl) (d_strL qz_let))
  (ss_cons (s_try rfl rfl sc_law_refused.nd tk (fun Wi pl xe tkT poT => (ss_one (s_expr (d_call (ks := []) (ok_reached T) (hr.mono (by decide)) tkT rfl T.g_reached T.F_reached.kp (bn_reached T) (cl_a (a_cons (d_v (pv 0)) (a_cons (d_v (pv 1)) a_nil))))))) (.named ⟨rfl, by decide, .inl T.g_BadCalls⟩ (i := 3) rfl rfl (fun a oe cl dd pn hz hf => (ss_one (s_set sc_law_refused.nd (i := 2) rfl (by first | exact Or.inl rfl | exact Or.inr rfl) (d_xfL qz_index (xf_index T) hz hf (pv 3))))) (.plain ⟨rfl, by decide, .inl T.g_TowerError⟩ (fun a oe cl dd pn hz hf => (ss_one (s_set sc_law_refused.nd (i := 2) rfl (by first | exact Or.inl rfl | exact Or.inr rfl) (d_strL qz_other)))) .nil)) (.named (ax_BadCalls T) (.plain (ax_TowerError T) .nil)))
  (ss_one (s_ret (d_v (pv 2))))))
theorem sc_law_reached : FnScope [(PySem.Str.ofString "_law_model_here"), (PySem.Str.ofString "_law_calls_here"), (PySem.Str.ofString "_law_states"), (PySem.Str.ofString "_law_call_here")] [(PySem.Str.ofString "_law_model_here"), (PySem.Str.ofString "_law_calls_here")] (defScope (top 42)) := ⟨rfl, rfl, rfl, by decide +kernel, rfl, by decide +kernel, by decide +kernel⟩
theorem bn_law_reached (T : Txt K mg) : BnD K (LT T) (T.fd 36) [(PySem.Str.ofString "_law_model_here"), (PySem.Str.ofString "_law_calls_here")] 2 [] (fun ds _ => ds) := bn_all (T.F_law_reached.bindsN fun _ _ _ _ _ _ us hl => match us, hl with | [_, _], _ => rfl)
theorem ok_law_reached (T : Txt K mg) : FnOk P w K mg base (L2.CX P w) 2 (T.ad 36) (T.fd 36) [(PySem.Str.ofString "_law_model_here"), (PySem.Str.ofString "_law_calls_here")] (spD (LT T) 2 m_law_reached) := by
  refine fok T.F_law_reached sc_law_reached rfl (fun cdv A outer s H E hr => ?_)
  have tk : L2.Takes (cxOf (L2.CX P w) P w K mg base [(PySem.Str.ofString "_law_model_here"), (PySem.Str.ofString "_law_calls_here"), (PySem.Str.ofString "_law_states"), (PySem.Str.ofString "_law_call_here")] (PySem.Str.ofString "_law_reached") (defScope (top 42)) (T.ad 36) cdv A outer s H E) (fun c dd _ H => E c dd H) := takes_of rfl rfl rfl rfl
  have po : PassesOwn (model P w) (cxOf (L2.CX P w) P w K mg base [(PySem.Str.ofString "_law_model_here"), (PySem.Str.ofString "_law_calls_here"), (PySem.Str.ofString "_law_states"), (PySem.Str.ofString "_law_call_here")] (PySem.Str.ofString "_law_reached") (defScope (top 42)) (T.ad 36) cdv A outer s H E).A (cxOf (L2.CX P w) P w K mg base [(PySem.Str.ofString "_law_model_here"), (PySem.Str.ofString "_law_calls_here"), (PySem.Str.ofString "_law_states"), (PySem.Str.ofString "_law_call_here")] (PySem.Str.ofString "_law_reached") (defScope (top 42)) (T.ad 36) cdv A outer s H E).env (cxOf (L2.CX P w) P w K mg base [(PySem.Str.ofString "_law_model_here"), (PySem.Str.ofString "_law_calls_here"), (PySem.Str.ofString "_law_states"), (PySem.Str.ofString "_law_call_here")] (PySem.Str.ofString "_law_reached") (defScope (top 42)) (T.ad 36) cdv A outer s H E).xe := passes_of rfl
  exact (ss_cons (s_new sc_law_reached.nd (i := 2) rfl (by first | exact Or.inl rfl | exact Or.inr rfl) (f_lst (a_cons (d_ixQ hr.units (p_q (q_v (pv 0))) q_int) a_nil)))
  (ss_cons (s_for po rfl (i_val (d_v (pv 1))) (g_name (pg_name sc_law_reached.nd (i := 3) rfl (by first | exact Or.inl rfl | exact Or.inr rfl))) (ss_one (s_set sc_law_reached.nd (i := 2) rfl (by first | exact Or.inl rfl | exact Or.inr rfl) (d_call (ks := []) (ok_law_behind T) (hr.mono (by decide)) tk rfl T.g__law_behind T.F_law_behind.kp (bn_law_behind T) (cl_a (a_cons (d_v (pv 0)) (a_cons (d_v (pv 2)) (a_cons (d_v (pv 3)) a_nil))))))))
  (ss_one (s_ret (d_v (pv 2))))))
theorem sc_law : FnScope [(PySem.Str.ofString "_law_script"), (PySem.Str.ofString "_law_pool_here"), (PySem.Str.ofString "_law_many"), (PySem.Str.ofString "_law_model_here"), (PySem.Str.ofString "_law_kind_here"), (PySem.Str.ofString "_law_calls_here"), (PySem.Str.ofString "_law_passed"), (PySem.Str.ofString "_law_copied_here"), (PySem.Str.ofString "_law_count"), (PySem.Str.ofString "_law_name"), (PySem.Str.ofString "_law_arguments"), (PySem.Str.ofString "_law_results"), (PySem.Str.ofString "_law_rows"), (PySem.Str.ofString "_law_wrong"), (PySem.Str.ofString "_law_at"), (PySem.Str.ofString "_law_worse"), (PySem.Str.ofString "_law_due"), (PySem.Str.ofString "_law_long"), (PySem.Str.ofString "_law_odd"), (PySem.Str.ofString "_law_call_here")] [(PySem.Str.ofString "_law_script")] (defScope (top 46)) := ⟨rfl, rfl, rfl, by decide +kernel, rfl, by decide +kernel, by decide +kernel⟩
theorem bn_law (T : Txt K mg) : BnD K (LT T) (T.fd 37) [(PySem.Str.ofString "_law_script")] 1 [] (fun ds _ => ds) := bn_all (T.F_law.bindsN fun _ _ _ _ _ _ us hl => match us, hl with | [_], _ => rfl)
theorem ok_law (T : Txt K mg) (hlaw : LawOk 20 1 m_law) : FnOk P w K mg base (L2.CX P w) 11 (T.ad 37) (T.fd 37) [(PySem.Str.ofString "_law_script")] (spLaw K) := by
  refine fokLaw (L := LT T) (ip := 1) (k := 10) T.F_law sc_law rfl rfl (by decide) rfl (fun cdv A outer s H E hr => ps_set sc_law.nd (i := 1) rfl (by first | exact Or.inl rfl | exact Or.inr rfl) (pe_call (ok_law_pool T) (hr.mono (by decide)) rfl T.g__law_pool T.F_law_pool.kp (bn_law_pool T) .nil passF (pa_cons (pv 0) pa_nil))) (fun cdv A outer s H E hr => ?_) hlaw
  have tk : L2.Takes (cxOf (L2.CX P w) P w K mg base [(PySem.Str.ofString "_law_script"), (PySem.Str.ofString "_law_pool_here"), (PySem.Str.ofString "_law_many"), (PySem.Str.ofString "_law_model_here"), (PySem.Str.ofString "_law_kind_here"), (PySem.Str.ofString "_law_calls_here"), (PySem.Str.ofString "_law_passed"), (PySem.Str.ofString "_law_copied_here"), (PySem.Str.ofString "_law_count"), (PySem.Str.ofString "_law_name"), (PySem.Str.ofString "_law_arguments"), (PySem.Str.ofString "_law_results"), (PySem.Str.ofString "_law_rows"), (PySem.Str.ofString "_law_wrong"), (PySem.Str.ofString "_law_at"), (PySem.Str.ofString "_law_worse"), (PySem.Str.ofString "_law_due"), (PySem.Str.ofString "_law_long"), (PySem.Str.ofString "_law_odd"), (PySem.Str.ofString "_law_call_here")] (PySem.Str.ofString "law") (defScope (top 46)) (T.ad 37) cdv A outer s H E) (fun c dd _ H => E c dd H) := takes_of rfl rfl rfl rfl
  have po : PassesOwn (model P w) (cxOf (L2.CX P w) P w K mg base [(PySem.Str.ofString "_law_script"), (PySem.Str.ofString "_law_pool_here"), (PySem.Str.ofString "_law_many"), (PySem.Str.ofString "_law_model_here"), (PySem.Str.ofString "_law_kind_here"), (PySem.Str.ofString "_law_calls_here"), (PySem.Str.ofString "_law_passed"), (PySem.Str.ofString "_law_copied_here"), (PySem.Str.ofString "_law_count"), (PySem.Str.ofString "_law_name"), (PySem.Str.ofString "_law_arguments"), (PySem.Str.ofString "_law_results"), (PySem.Str.ofString "_law_rows"), (PySem.Str.ofString "_law_wrong"), (PySem.Str.ofString "_law_at"), (PySem.Str.ofString "_law_worse"), (PySem.Str.ofString "_law_due"), (PySem.Str.ofString "_law_long"), (PySem.Str.ofString "_law_odd"), (PySem.Str.ofString "_law_call_here")] (PySem.Str.ofString "law") (defScope (top 46)) (T.ad 37) cdv A outer s H E).A (cxOf (L2.CX P w) P w K mg base [(PySem.Str.ofString "_law_script"), (PySem.Str.ofString "_law_pool_here"), (PySem.Str.ofString "_law_many"), (PySem.Str.ofString "_law_model_here"), (PySem.Str.ofString "_law_kind_here"), (PySem.Str.ofString "_law_calls_here"), (PySem.Str.ofString "_law_passed"), (PySem.Str.ofString "_law_copied_here"), (PySem.Str.ofString "_law_count"), (PySem.Str.ofString "_law_name"), (PySem.Str.ofString "_law_arguments"), (PySem.Str.ofString "_law_results"), (PySem.Str.ofString "_law_rows"), (PySem.Str.ofString "_law_wrong"), (PySem.Str.ofString "_law_at"), (PySem.Str.ofString "_law_worse"), (PySem.Str.ofString "_law_due"), (PySem.Str.ofString "_law_long"), (PySem.Str.ofString "_law_odd"), (PySem.Str.ofString "_law_call_here")] (PySem.Str.ofString "law") (defScope (top 46)) (T.ad 37) cdv A outer s H E).env (cxOf (L2.CX P w) P w K mg base [(PySem.Str.ofString "_law_script"), (PySem.Str.ofString "_law_pool_here"), (PySem.Str.ofString "_law_many"), (PySem.Str.ofString "_law_model_here"), (PySem.Str.ofString "_law_kind_here"), (PySem.Str.ofString "_law_calls_here"), (PySem.Str.ofString "_law_passed"), (PySem.Str.ofString "_law_copied_here"), (PySem.Str.ofString "_law_count"), (PySem.Str.ofString "_law_name"), (PySem.Str.ofString "_law_arguments"), (PySem.Str.ofString "_law_results"), (PySem.Str.ofString "_law_rows"), (PySem.Str.ofString "_law_wrong"), (PySem.Str.ofString "_law_at"), (PySem.Str.ofString "_law_worse"), (PySem.Str.ofString "_law_due"), (PySem.Str.ofString "_law_long"), (PySem.Str.ofString "_law_odd"), (PySem.Str.ofString "_law_call_here")] (PySem.Str.ofString "law") (defScope (top 46)) (T.ad 37) cdv A outer s H E).xe := passes_of rfl
  exact (ss_cons (s_set sc_law.nd (i := 2) rfl (by first | exact Or.inl rfl | exact Or.inr rfl) (d_ix hr.units (d_fz (f_lst (a_cons (d_call (ks := []) (ok_law_draw T) (hr.mono (by decide)) tk rfl T.g__law_draw T.F_law_draw.kp (bn_law_draw T) (cl_a (a_cons (d_v (pv 1)) (a_cons d_int a_nil)))) (a_cons (d_call (ks := []) (ok_law_draw T) (hr.mono (by decide)) tk rfl T.g__law_draw T.F_law_draw.kp (bn_law_draw T) (cl_a (a_cons (d_v (pv 1)) (a_cons d_int a_nil)))) a_nil)))) (p_e (d_t1 int_D rfl T.n_int bt_int (p_e (d_cmp (op_eqO hr.units) (d_call (ks := []) (ok_law_draw T) (hr.mono (by decide)) tk rfl T.g__law_draw T.F_law_draw.kp (bn_law_draw T) (cl_a (a_cons (d_v (pv 1)) (a_cons d_int a_nil)))) (p_q q_int)))))))
  (ss_cons (s_set sc_law.nd (i := 3) rfl (by first | exact Or.inl rfl | exact Or.inr rfl) (d_call (ks := []) (ok_law_model T) (hr.mono (by decide)) tk rfl T.g__law_model T.F_law_model.kp (bn_law_model T) (cl_a (a_cons (d_v (pv 1)) (a_cons d_bl (a_cons d_int a_nil))))))
  (ss_cons (s_set sc_law.nd (i := 4) rfl (by first | exact Or.inl rfl | exact Or.inr rfl) (d_call (ks := []) (ok_law_kind T) (hr.mono (by decide)) tk rfl T.g__law_kind T.F_law_kind.kp (bn_law_kind T) (cl_a (a_cons (d_v (pv 3)) a_nil))))
  (ss_cons (s_set sc_law.nd (i := 5) rfl (by first | exact Or.inl rfl | exact Or.inr rfl) (d_call (ks := []) (ok_law_calls T) (hr.mono (by decide)) tk rfl T.g__law_calls T.F_law_calls.kp (bn_law_calls T) (cl_a (a_cons (d_v (pv 1)) (a_cons (d_v (pv 3)) (a_cons (d_v (pv 2)) a_nil))))))
  (ss_cons (s_lc rfl sc_law.nd (i := 6) rfl rfl rfl (i_val (d_v (pv 5))) (own := [((PySem.Str.ofString "_law_call_here"), 19)]) (by first | rfl | kernel_rfl) (by decide) (fun _ _ _ _ _ => (g_name (pg_name sc_law.nd (i := 19) rfl (by first | exact Or.inl rfl | exact Or.inr rfl)))) (fun _ _ _ _ _ => ts_nil) (fun _ _ _ _ _ => (d_ix hr.units (d_fz (f_lst (a_cons (d_v (pv 19)) (a_cons (d_fz (f_t1 (list_D rfl) rfl T.n_list bt_list (p_q (q_v (pv 19))))) a_nil)))) (p_e (d_call (ks := []) (ok_law_draw T) (hr.mono (by decide)) takes0 rfl T.g__law_draw T.F_law_draw.kp (bn_law_draw T) (cl_a (a_cons (d_v (pv 1)) (a_cons d_int a_nil))))))))
  (ss_cons (s_set sc_law.nd (i := 7) rfl (by first | exact Or.inl rfl | exact Or.inr rfl) (d_call (ks := []) (ok_law_copied T 8) (hr.mono (by decide)) tk rfl T.g__law_copied T.F_law_copied.kp (bn_law_copied T) (cl_a (a_cons (d_v (pv 6)) a_nil))))
  (ss_cons (s_for po rfl (i_val (d_fz (f_lst (a_cons (d_v (pv 2)) (a_cons (d_binQ op_fdivO (p_q (q_v (pv 2))) q_int) (a_cons d_int a_nil)))))) (g_name (pg_name sc_law.nd (i := 8) rfl (by first | exact Or.inl rfl | exact Or.inr rfl))) (ss_one (s_if (t_not (t_val (d_call (ks := []) (ok_law_same T 8) (hr.mono (by decide)) tk rfl T.g__law_same T.F_law_same.kp (bn_law_same T) (cl_a (a_cons (d_call (ks := []) (ok_reached T) (hr.mono (by decide)) tk rfl T.g_reached T.F_reached.kp (bn_reached T) (cl_a (a_cons (d_v (pv 4)) (a_cons (d_sl (d_v (pv 6)) po_n (po_1 (d_v (pv 8)))) a_nil)))) (a_cons (d_t1 tuple_D rfl T.n_tuple bt_tuple (p_e (d_call (ks := []) (ok_law_reached T) (hr.mono (by decide)) tk rfl T.g__law_reached T.F_law_reached.kp (bn_law_reached T) (cl_a (a_cons (d_v (pv 3)) (a_cons (d_sl (d_v (pv 5)) po_n (po_1 (d_v (pv 8)))) a_nil)))))) a_nil)))))) (ss_one (s_ret d_bl)) ss_nil)))
  (ss_cons (s_if (t_not (t_val (d_call (ks := []) (ok_law_same T 8) (hr.mono (by decide)) tk rfl T.g__law_same T.F_law_same.kp (bn_law_same T) (cl_a (a_cons (d_call (ks := []) (ok_reached T) (hr.mono (by decide)) tk rfl T.g_reached T.F_reached.kp (bn_reached T) (cl_a (a_cons (d_v (pv 4)) (a_cons (d_t1 tuple_D rfl T.n_tuple bt_tuple (p_q (q_v (pv 6)))) a_nil)))) (a_cons (d_t1 tuple_D rfl T.n_tuple bt_tuple (p_e (d_call (ks := []) (ok_law_reached T) (hr.mono (by decide)) tk rfl T.g__law_reached T.F_law_reached.kp (bn_law_reached T) (cl_a (a_cons (d_v (pv 3)) (a_cons (d_v (pv 5)) a_nil)))))) a_nil)))))) (ss_one (s_ret d_bl)) ss_nil)
  (ss_cons (s_if (t_not (t_val (d_call (ks := []) (ok_law_same T 8) (hr.mono (by decide)) tk rfl T.g__law_same T.F_law_same.kp (bn_law_same T) (cl_a (a_cons (d_v (pv 6)) (a_cons (d_v (pv 7)) a_nil)))))) (ss_one (s_ret d_bl)) ss_nil)
  (ss_cons (s_set sc_law.nd (i := 9) rfl (by first | exact Or.inl rfl | exact Or.inr rfl) (d_ixQ hr.units (p_e (d_fz (f_b1 (sorted_D hr.units) rfl T.n_sorted bt_sorted (p_e (d_fz (f_t1 (list_D rfl) rfl T.n_list bt_list (p_e (d_ixQ hr.units (p_q (q_v (pv 3))) q_int)))))))) q_int))
  (ss_cons (s_asg (d_ixQ hr.units (p_e (d_ixQ hr.units (p_q (q_v (pv 3))) q_int)) (q_v (pv 9))) (g_tup rfl (gs_cons (g_name (pg_name sc_law.nd (i := 10) rfl (by first | exact Or.inl rfl | exact Or.inr rfl))) (gs_cons (g_name (pg_name sc_law.nd (i := 11) rfl (by first | exact Or.inl rfl | exact Or.inr rfl))) (gs_cons (g_name (pg_name sc_law.nd (i := 12) rfl (by first | exact Or.inl rfl | exact Or.inr rfl))) gs_nil)))))
  (ss_cons (s_new sc_law.nd (i := 13) rfl (by first | exact Or.inl rfl | exact Or.inr rfl) (f_lst (a_cons d_non (a_cons (d_tup a_nil) (a_cons (d_tup (a_cons (d_v (pv 9)) (a_cons d_int a_nil))) (a_cons (d_tup (a_cons (d_v (pv 9)) (a_cons d_int (a_cons d_int (a_cons d_int a_nil))))) (a_cons (d_tup (a_cons (d_v (pv 9)) (a_cons (d_v (pv 10)) (a_cons d_int a_nil)))) (a_cons (d_tup (a_cons (d_v (pv 9)) (a_cons d_int (a_cons (d_v (pv 11)) a_nil)))) (a_cons (d_tup (a_cons (d_v (pv 9)) (a_cons d_bl (a_cons d_int a_nil)))) a_nil)))))))))
  (ss_cons (s_set sc_law.nd (i := 13) rfl (by first | exact Or.inl rfl | exact Or.inr rfl) (d_bin op_addO (d_v (pv 13)) (p_e (d_fz (f_lst (a_cons (d_tup (a_cons (d_v (pv 9)) (a_cons d_int (a_cons d_non a_nil)))) (a_cons (d_tup (a_cons (d_strL qzh_) (a_cons d_int (a_cons d_int a_nil)))) (a_cons (d_tup (a_cons (d_fz (f_lst a_nil)) (a_cons d_int (a_cons d_int a_nil)))) (a_cons (d_v (pv 9)) (a_cons d_int (a_cons (d_fz f_dctK) (a_cons (d_tup (a_cons (d_v (pv 9)) (a_cons (d_neg d_int) (a_cons d_int a_nil)))) (a_cons (d_tup (a_cons (d_v (pv 9)) (a_cons d_int (a_cons (d_strL qz_0) a_nil)))) (a_cons (d_tup (a_cons (d_fz f_dctK) (a_cons d_int (a_cons d_int a_nil)))) a_nil))))))))))))))
  (ss_cons (s_set sc_law.nd (i := 14) rfl (by first | exact Or.inl rfl | exact Or.inr rfl) (d_call (ks := []) (ok_law_draw T) (hr.mono (by decide)) tk rfl T.g__law_draw T.F_law_draw.kp (bn_law_draw T) (cl_a (a_cons (d_v (pv 1)) (a_cons (d_binQ op_addO (p_q (q_v (pv 2))) q_int) a_nil)))))
  (ss_cons (s_new sc_law.nd (i := 15) rfl (by first | exact Or.inl rfl | exact Or.inr rfl) (f_cat (d_bin op_addO (d_sl (d_v (pv 6)) po_n (po_1 (d_v (pv 14)))) (p_e (d_fz (f_lst (a_cons (d_ix hr.units (d_v (pv 13)) (p_e (d_call (ks := []) (ok_law_draw T) (hr.mono (by decide)) tk rfl T.g__law_draw T.F_law_draw.kp (bn_law_draw T) (cl_a (a_cons (d_v (pv 1)) (a_cons (d_b1 len_D rfl T.n_len bt_len (p_q (q_v (pv 13)))) a_nil)))))) a_nil))))) (p_e (d_sl (d_v (pv 6)) (po_1 (d_v (pv 14))) po_n))))
  (ss_cons (s_if (t_cmp (op_eqO hr.units) (d_call (ks := []) (ok_law_draw T) (hr.mono (by decide)) tk rfl T.g__law_draw T.F_law_draw.kp (bn_law_draw T) (cl_a (a_cons (d_v (pv 1)) (a_cons d_int a_nil)))) (p_q q_int)) (ss_one (s_expr (d_append (pv 15) (a_cons d_non a_nil)))) ss_nil)
  (ss_cons (s_set sc_law.nd (i := 16) rfl (by first | exact Or.inl rfl | exact Or.inr rfl) (d_v (pv 14)))
  (ss_cons (s_if (t_cmp op_gtO (d_b1 len_D rfl T.n_len bt_len (p_q (q_v (pv 15)))) (p_q q_int)) (ss_one (s_set sc_law.nd (i := 16) rfl (by first | exact Or.inl rfl | exact Or.inr rfl) (d_neg d_int))) ss_nil)
  (ss_cons (s_if (t_not (t_val (d_call (ks := []) (ok_law_same T 8) (hr.mono (by decide)) tk rfl T.g__law_same T.F_law_same.kp (bn_law_same T) (cl_a (a_cons (d_call (ks := []) (ok_law_refused T) (hr.mono (by decide)) tk rfl T.g__law_refused T.F_law_refused.kp (bn_law_refused T) (cl_a (a_cons (d_v (pv 4)) (a_cons (d_v (pv 15)) a_nil)))) (a_cons (d_v (pv 16)) a_nil)))))) (ss_one (s_ret d_bl)) ss_nil)
  (ss_cons (s_new sc_law.nd (i := 17) rfl (by first | exact Or.inl rfl | exact Or.inr rfl) (f_rep (f_lst (a_cons (d_call (ks := []) (ok_law_call T) (hr.mono (by decide)) tk rfl T.g__law_call T.F_law_call.kp (bn_law_call T) (cl_a (a_cons (d_v (pv 1)) (a_cons (d_v (pv 3)) a_nil)))) a_nil)) q_int))
  (ss_cons (s_set sc_law.nd (i := 18) rfl (by first | exact Or.inl rfl | exact Or.inr rfl) (d_ix hr.units (d_fz (f_lst (a_cons d_non (a_cons (d_fz f_dctK) (a_cons (d_strL qzh_) (a_cons d_int (a_cons (d_v (pv 17)) (a_cons (d_t1 tuple_D rfl T.n_tuple bt_tuple (p_q (q_v (pv 17)))) a_nil)))))))) (p_e (d_call (ks := []) (ok_law_draw T) (hr.mono (by decide)) tk rfl T.g__law_draw T.F_law_draw.kp (bn_law_draw T) (cl_a (a_cons (d_v (pv 1)) (a_cons d_int a_nil)))))))
  (ss_one (s_ret (d_call (ks := []) (ok_law_same T 8) (hr.mono (by decide)) tk rfl T.g__law_same T.F_law_same.kp (bn_law_same T) (cl_a (a_cons (d_call (ks := []) (ok_law_refused T) (hr.mono (by decide)) tk rfl T.g__law_refused T.F_law_refused.kp (bn_law_refused T) (cl_a (a_cons (d_v (pv 4)) (a_cons (d_v (pv 18)) a_nil)))) (a_cons (d_neg d_int) a_nil)))))))))))))))))))))))))))
end
end DL

/-! S0: what mirrors come to, as rules for simp. -/
namespace DL
open PySem PySem.Spec PyProof.Rows L2 PySem.W
section
variable {α β : Type}
@[simp] theorem bindE_k (a : α) (ρ : Rho) (f : α → Rho → M (ER β)) : bindE (.ret (.ok (a, ρ))) f = f a ρ := rfl
@[simp] theorem bindE_x (e : Err × Rho) (f : α → Rho → M (ER β)) : bindE (.ret (.error e)) f = .ret (.error e) := rfl
@[simp] theorem bindE_stuck (f : α → Rho → M (ER β)) : bindE (.stuck) f = .stuck := rfl
@[simp] theorem bindE_draw (n : Int) (k : Int → M (ER α)) (f : α → Rho → M (ER β)) : bindE (.draw n k) f = .draw n fun r => bindE (k r) f := rfl
@[simp] theorem bindN_ok (a : α) (ρ : Rho) (f : α → Rho → M (ER β)) : bindN (.ret (.ok (a, ρ))) f = f a ρ := rfl
@[simp] theorem bindN_err (e : Err × Rho) (f : α → Rho → M (ER β)) : bindN (.ret (.error e)) f = .stuck := rfl
@[simp] theorem bindN_stuck (f : α → Rho → M (ER β)) : bindN (.stuck) f = .stuck := rfl
@[simp] theorem bindN_draw (n : Int) (k : Int → M (ER α)) (f : α → Rho → M (ER β)) : bindN (.draw n k) f = .draw n fun r => bindN (k r) f := rfl
@[simp] theorem bindES_ok (a : α) (ρ : Rho) (f : α → Rho → M SR) : bindES (.ret (.ok (a, ρ))) f = f a ρ := rfl
@[simp] theorem bindES_err (e : Err × Rho) (f : α → Rho → M SR) : bindES (.ret (.error e)) f = .ret (.ex e.1 e.2) := rfl
@[simp] theorem bindES_stuck (f : α → Rho → M SR) : bindES (.stuck) f = .stuck := rfl
@[simp] theorem bindES_draw (n : Int) (k : Int → M (ER α)) (f : α → Rho → M SR) : bindES (.draw n k) f = .draw n fun r => bindES (k r) f := rfl
@[simp] theorem bindS_nx (ρ : Rho) (f : Rho → M SR) : bindS (.ret (.nx ρ)) f = f ρ := rfl
@[simp] theorem bindS_rt (d : D) (f : Rho → M SR) : bindS (.ret (.rt d)) f = .ret (.rt d) := rfl
@[simp] theorem bindS_bk (ρ : Rho) (f : Rho → M SR) : bindS (.ret (.bk ρ)) f = .ret (.bk ρ) := rfl
@[simp] theorem bindS_ct (ρ : Rho) (f : Rho → M SR) : bindS (.ret (.ct ρ)) f = .ret (.ct ρ) := rfl
@[simp] theorem bindS_ex (e : Err) (ρ : Rho) (f : Rho → M SR) : bindS (.ret (.ex e ρ)) f = .ret (.ex e ρ) := rfl
@[simp] theorem bindS_stuck (f : Rho → M SR) : bindS (.stuck) f = .stuck := rfl
@[simp] theorem bindS_draw (n : Int) (k : Int → M SR) (f : Rho → M SR) : bindS (.draw n k) f = .draw n fun r => bindS (k r) f := rfl
/-! ifs go out of a bind -/
@[simp] theorem bindE_ite (c : Prop) [Decidable c] (a b : M (ER α)) (f : α → Rho → M (ER β)) : bindE (if c then a else b) f = if c then bindE a f else bindE b f := by split <;> rfl
@[simp] theorem bindN_ite (c : Prop) [Decidable c] (a b : M (ER α)) (f : α → Rho → M (ER β)) : bindN (if c then a else b) f = if c then bindN a f else bindN b f := by split <;> rfl
@[simp] theorem bindES_ite (c : Prop) [Decidable c] (a b : M (ER α)) (f : α → Rho → M SR) : bindES (if c then a else b) f = if c then bindES a f else bindES b f := by split <;> rfl
@[simp] theorem bindS_ite (c : Prop) [Decidable c] (a b : M SR) (f : Rho → M SR) : bindS (if c then a else b) f = if c then bindS a f else bindS b f := by split <;> rfl
@[simp] theorem bindM_ite (c : Prop) [Decidable c] (a b : M α) (f : α → M β) : (if c then a else b : M α).bind f = if c then a.bind f else b.bind f := by split <;> rfl
@[simp] theorem wp_ret (a : α) (Q : α → Prop) : (M.ret a).wp Q = Q a := rfl
@[simp] theorem wp_stuck (Q : α → Prop) : (M.stuck : M α).wp Q = False := rfl
@[simp] theorem wp_draw (n : Int) (k : Int → M α) (Q : α → Prop) : (M.draw n k).wp Q = (0 < n ∧ ∀ r, 0 ≤ r → r < n → (k r).wp Q) := rfl
theorem wp_ite (c : Prop) [Decidable c] (a b : M α) (Q : α → Prop) : (if c then a else b : M α).wp Q = if c then a.wp Q else b.wp Q := by split <;> rfl
@[simp] theorem optE_sm (a : α) (ρ : Rho) : optE (some a) ρ = .ret (.ok (a, ρ)) := rfl
@[simp] theorem optE_none (ρ : Rho) : optE (none : Option α) ρ = .stuck := rfl
@[simp] theorem retE_def (a : α) (ρ : Rho) : retE a ρ = .ret (.ok (a, ρ)) := rfl
end
section
universe u
variable {β : Type u}
@[simp] theorem fcD_s (d : D) (k : D → β) : fcD d k = k d := fcD_eq d k
@[simp] theorem fcL_s (d : List D) (k : List D → β) : fcL d k = k d := fcL_eq d k
@[simp] theorem fcS_s (d : Slot) (k : Slot → β) : fcS d k = k d := fcS_eq d k
@[simp] theorem fcR_s (d : Rho) (k : Rho → β) : fcR d k = k d := fcR_eq d k
end
/-! expressions -/
@[simp] theorem eC_s (d : D) (ρ : Rho) : eC d ρ = .ret (.ok (d, ρ)) := rfl
@[simp] theorem eQ_s (q : Rho → Option D) (ρ : Rho) : eQ q ρ = optE (q ρ) ρ := rfl
@[simp] theorem qC_s (d : D) (ρ : Rho) : qC d ρ = some d := rfl
@[simp] theorem eCl0_s (ρ : Rho) : eCl0 ρ = .ret (.ok (([], []), ρ)) := rfl
@[simp] theorem eClK_s (mk : EM (List D)) (ρ : Rho) : eClK mk ρ = bindE (mk ρ) fun ys ρ2 => .ret (.ok (([], ys), ρ2)) := rfl
def slV : Option Slot → Option D
  | some (.val d) => some d
  | some (.own t ds) => some (.node t ds)
  | _ => none
@[simp] theorem qV_s (i : Nat) (ρ : Rho) : qV i ρ = slV ρ[i]? := rfl
@[simp] theorem slV_val (d : D) : slV (some (.val d)) = some d := rfl
@[simp] theorem slV_own (t : Tag) (ds : List D) : slV (some (.own t ds)) = some (.node t ds) := rfl
def goV (i : Nat) (ρ : Rho) : Option Slot → M (ER D)
  | some (.val d) => .ret (.ok (d, ρ))
  | some (.own t ds) => if whole t ds then .ret (.ok (.node t ds, ρ.set i (.val (.node t ds)))) else .stuck
  | _ => .stuck
@[simp] theorem eV_s (i : Nat) (ρ : Rho) : eV i ρ = goV i ρ ρ[i]? := rfl
@[simp] theorem goV_val (i : Nat) (ρ : Rho) (d : D) : goV i ρ (some (.val d)) = .ret (.ok (d, ρ)) := rfl
@[simp] theorem goV_own (i : Nat) (ρ : Rho) (t : Tag) (ds : List D) : goV i ρ (some (.own t ds)) = if whole t ds then .ret (.ok (.node t ds, ρ.set i (.val (.node t ds)))) else .stuck := rfl
@[simp] theorem whole_lst (ds : List D) : whole .lst ds = true := rfl
@[simp] theorem whole_tup (ds : List D) : whole .tup ds = true := rfl
@[simp] theorem whole_dct (ks : List Key) (ds : List D) : whole (.dct ks) ds = true := rfl
@[simp] theorem whole_dctT (ks : List (List Key)) (ds : List D) : whole (.dctT ks) ds = true := rfl
@[simp] theorem whole_obj (c : Nat) (ds : List D) : whole (.obj c) ds = ((cf c).length == ds.length) := rfl
@[simp] theorem eBin_s (g : D → D → Option D) (ma mb : EM D) (ρ : Rho) : eBin g ma mb ρ = bindE (ma ρ) fun x ρ1 => bindE (mb ρ1) fun y ρ2 => optE (g x y) ρ2 := rfl
def goQ (g : D → D → Option D) (x : D) (ρ : Rho) : Option D → M (ER D)
  | some y => optE (g x y) ρ
  | none => .stuck
@[simp] theorem goQ_some (g : D → D → Option D) (x y : D) (ρ : Rho) : goQ g x ρ (some y) = optE (g x y) ρ := rfl
@[simp] theorem eBinQ_s (g : D → D → Option D) (ma : EM D) (mb : Rho → Option D) (ρ : Rho) : eBinQ g ma mb ρ = bindE (ma ρ) fun x ρ1 => goQ g x ρ1 (mb ρ1) := rfl
@[simp] theorem eNil_s (ρ : Rho) : eNil ρ = .ret (.ok ([], ρ)) := rfl
@[simp] theorem eCons_s (ma : EM D) (mr : EM (List D)) (ρ : Rho) : eCons ma mr ρ = bindE (ma ρ) fun x ρ1 => bindE (mr ρ1) fun xs ρ2 => .ret (.ok (x :: xs, ρ2)) := rfl
@[simp] theorem eCl_s (ma mk : EM (List D)) (ρ : Rho) : eCl ma mk ρ = bindE (ma ρ) fun xs ρ1 => bindE (mk ρ1) fun ys ρ2 => .ret (.ok ((xs, ys), ρ2)) := rfl
@[simp] theorem eCl1_s (ma : EM (List D)) (ρ : Rho) : eCl1 ma ρ = bindE (ma ρ) fun xs ρ1 => .ret (.ok ((xs, []), ρ1)) := rfl
/-- out of a call -/
def outC (ρ : Rho) : Except Err D → ER D
  | .ok d => .ok (d, ρ)
  | .error e => .error (e, ρ)
theorem callM_eq (x : M (Except Err D)) (ρ : Rho) : callM x ρ = x.bind fun r => .ret (outC ρ r) := by
  unfold callM; congr 1; funext r; cases r <;> simp [outC]
@[simp] theorem callM_ok (d : D) (ρ : Rho) : callM (.ret (.ok d)) ρ = .ret (.ok (d, ρ)) := by simp [callM]
@[simp] theorem callM_err (e : Err) (ρ : Rho) : callM (.ret (.error e)) ρ = .ret (.error (e, ρ)) := rfl
@[simp] theorem callM_stuck (ρ : Rho) : callM .stuck ρ = .stuck := rfl
@[simp] theorem callM_draw (n : Int) (k : Int → M (Except Err D)) (ρ : Rho) : callM (.draw n k) ρ = .draw n fun r => callM (k r) ρ := rfl
@[simp] theorem callM_ite (c : Prop) [Decidable c] (a b : M (Except Err D)) (ρ : Rho) : callM (if c then a else b) ρ = if c then callM a ρ else callM b ρ := by split <;> rfl
@[simp] theorem eCall_s (m : FM) (np nk : Nat) (gD : List D → List D → List D) (ma : EM (List D × List D)) (ρ : Rho) : eCall m np nk gD ma ρ = bindE (ma ρ) fun p ρ1 => if p.1.length = np ∧ p.2.length = nk then callM (m (gD p.1 p.2)) ρ1 else .stuck := rfl
def goB {α : Type} (k : Bool → M (ER α)) : D → M (ER α)
  | .bl b => k b
  | _ => .stuck
@[simp] theorem goB_bl {α : Type} (k : Bool → M (ER α)) (b : Bool) : goB k (.bl b) = k b := rfl
@[simp] theorem eTst_s (m : EM D) (ρ : Rho) : eTst m ρ = bindE (m ρ) fun d ρ1 => goB (fun b => .ret (.ok (b, ρ1))) d := rfl
@[simp] theorem eNotB_s (m : EM Bool) (ρ : Rho) : eNotB m ρ = bindE (m ρ) fun b ρ1 => .ret (.ok (!b, ρ1)) := rfl
@[simp] theorem eAndB_s (m n : EM Bool) (ρ : Rho) : eAndB m n ρ = bindE (m ρ) fun b ρ1 => if b then n ρ1 else .ret (.ok (false, ρ1)) := rfl
@[simp] theorem eOrB_s (m n : EM Bool) (ρ : Rho) : eOrB m n ρ = bindE (m ρ) fun b ρ1 => if b then .ret (.ok (true, ρ1)) else n ρ1 := rfl
@[simp] theorem eNot_s (m : EM D) (ρ : Rho) : eNot m ρ = bindE (m ρ) fun d ρ1 => goB (fun b => .ret (.ok (.bl (!b), ρ1))) d := rfl
@[simp] theorem eAnd_s (m n : EM D) (ρ : Rho) : eAnd m n ρ = bindE (m ρ) fun d ρ1 => goB (fun b => if b then n ρ1 else .ret (.ok (.bl false, ρ1))) d := by
  unfold eAnd; congr 1; funext d ρ1
  cases d with
  | bl b => cases b <;> rfl
  | _ => rfl
@[simp] theorem eOr_s (m n : EM D) (ρ : Rho) : eOr m n ρ = bindE (m ρ) fun d ρ1 => goB (fun b => if b then .ret (.ok (.bl true, ρ1)) else n ρ1) d := by
  unfold eOr; congr 1; funext d ρ1
  cases d with
  | bl b => cases b <;> rfl
  | _ => rfl
@[simp] theorem eIf_s (c : EM Bool) (m n : EM D) (ρ : Rho) : eIf c m n ρ = bindE (c ρ) fun b ρ1 => if b then m ρ1 else n ρ1 := rfl
def goCh (k : Bool → M (ER D)) : Option D → M (ER D)
  | some (.bl b) => k b
  | _ => .stuck
@[simp] theorem goCh_bl (k : Bool → M (ER D)) (b : Bool) : goCh k (some (.bl b)) = k b := rfl
@[simp] theorem eChain_s (g g' : D → D → Option D) (ma mb mc : EM D) (ρ : Rho) : eChain g g' ma mb mc ρ = bindE (ma ρ) fun x ρ1 => bindE (mb ρ1) fun y ρ2 => goCh (fun b => if b then bindE (mc ρ2) fun z ρ3 => optE (g' y z) ρ3 else .ret (.ok (.bl false, ρ2))) (g x y) := by
  unfold eChain; congr 1; funext x ρ1; congr 1; funext y ρ2
  cases g x y with
  | none => rfl
  | some d => cases d with
    | bl b => cases b <;> rfl
    | _ => rfl
@[simp] theorem eTru_s (m : EM D) (ρ : Rho) : eTru m ρ = bindE (m ρ) fun d ρ1 => optE (truD d) ρ1 := rfl
@[simp] theorem e1_s (g : D → Option D) (m : EM D) (ρ : Rho) : e1 g m ρ = bindE (m ρ) fun d ρ1 => optE (g d) ρ1 := rfl
@[simp] theorem f1_s (g : D → Option (Tag × List D)) (m : EM D) (ρ : Rho) : f1 g m ρ = bindE (m ρ) fun d ρ1 => optE (g d) ρ1 := rfl
def goO {α β : Type} (k : α → M (ER β)) : Option α → M (ER β)
  | some a => k a
  | none => .stuck
@[simp] theorem goO_some {α β : Type} (k : α → M (ER β)) (a : α) : goO k (some a) = k a := rfl
@[simp] theorem eIsi_s (ans : Nat → Option Bool) (m : EM D) (ρ : Rho) : eIsi ans m ρ = bindE (m ρ) fun d ρ1 => goO (fun k => goO (fun b => .ret (.ok (.bl b, ρ1))) (ans k)) (tyD d) := by
  unfold eIsi; congr 1; funext d ρ1
  cases h : tyD d with
  | none => rfl
  | some k => simp only [goO_some]; cases ans k <;> rfl
@[simp] theorem eFz_s (m : EM (Tag × List D)) (ρ : Rho) : eFz m ρ = bindE (m ρ) fun p ρ1 => if whole p.1 p.2 then .ret (.ok (.node p.1 p.2, ρ1)) else .stuck := rfl
@[simp] theorem eLst_s (m : EM (List D)) (ρ : Rho) : eLst m ρ = bindE (m ρ) fun ds ρ1 => if ds.length ≤ sz then .ret (.ok ((.lst, ds), ρ1)) else .stuck := rfl
@[simp] theorem eTup_s (m : EM (List D)) (ρ : Rho) : eTup m ρ = bindE (m ρ) fun ds ρ1 => if ds.length ≤ sz then .ret (.ok (.node .tup ds, ρ1)) else .stuck := rfl
@[simp] theorem eDctK_s (ρ : Rho) : eDctK ρ = .ret (.ok ((.dct [], []), ρ)) := rfl
@[simp] theorem eIt_s (m : EM D) (ρ : Rho) : eIt m ρ = bindE (m ρ) fun d ρ1 => optE (itemsD d) ρ1 := rfl
@[simp] theorem eRng1_s (m : EM (List D)) (ρ : Rho) : eRng1 m ρ = bindE (m ρ) fun ds ρ1 => optE (rngD1 ds) ρ1 := rfl
@[simp] theorem eRng2_s (m : EM (List D)) (ρ : Rho) : eRng2 m ρ = bindE (m ρ) fun ds ρ1 => optE (rngD2 ds) ρ1 := rfl
@[simp] theorem eEnum_s (m : EM D) (ρ : Rho) : eEnum m ρ = bindE (m ρ) fun d ρ1 => optE (enumO d) ρ1 := rfl
def goF (ok : Nat → Bool) (f : Str) (ρ : Rho) : D → M (ER D)
  | .node (.obj c) ds => if ok c then optE (lkF (cf c) ds f) ρ else .stuck
  | _ => .stuck
@[simp] theorem eFld_s (ok : Nat → Bool) (f : Str) (m : EM D) (ρ : Rho) : eFld ok f m ρ = bindE (m ρ) fun d ρ1 => goF ok f ρ1 d := rfl
@[simp] theorem goF_obj (ok : Nat → Bool) (f : Str) (ρ : Rho) (c : Nat) (ds : List D) : goF ok f ρ (.node (.obj c) ds) = if ok c then optE (lkF (cf c) ds f) ρ else .stuck := rfl
def goM (disp : Nat → Option FM) (k : FM → M (ER D)) : D → M (ER D)
  | .node (.obj c) _ => goO k (disp c)
  | _ => .stuck
@[simp] theorem goM_obj (disp : Nat → Option FM) (k : FM → M (ER D)) (c : Nat) (ds : List D) : goM disp k (.node (.obj c) ds) = goO k (disp c) := rfl
@[simp] theorem eMeth_s (disp : Nat → Option FM) (np nk : Nat) (gD : List D → List D → List D) (mo : EM D) (ma : EM (List D × List D)) (ρ : Rho) : eMeth disp np nk gD mo ma ρ = bindE (mo ρ) fun d ρ1 => goM disp (fun m => bindE (ma ρ1) fun p ρ2 => if p.1.length = np ∧ p.2.length = nk then callM (m (gD (d :: p.1) p.2)) ρ2 else .stuck) d := by
  unfold eMeth; congr 1; funext d ρ1
  cases d with
  | node t ds =>
    cases t with
    | obj c => simp only [goM_obj]; cases disp c <;> rfl
    | _ => rfl
  | _ => rfl
def outI (c : Nat) (ρ : Rho) : Except Err (List D) → ER (Tag × List D)
  | .ok fs => .ok ((.obj c, fs), ρ)
  | .error e => .error (e, ρ)
@[simp] theorem outI_ok (c : Nat) (ρ : Rho) (fs : List D) : outI c ρ (.ok fs) = .ok ((.obj c, fs), ρ) := rfl
@[simp] theorem outI_err (c : Nat) (ρ : Rho) (e : Err) : outI c ρ (.error e) = .error (e, ρ) := rfl
@[simp] theorem eMake_s (c : Nat) (mi : FMI) (np nk : Nat) (gD : List D → List D → List D) (ma : EM (List D × List D)) (ρ : Rho) : eMake c mi np nk gD ma ρ = bindE (ma ρ) fun p ρ1 => if p.1.length = np ∧ p.2.length = nk then (mi (gD p.1 p.2)).bind fun r => .ret (outI c ρ1 r) else .stuck := by
  unfold eMake; congr 1
@[simp] theorem eOwn_s (disp : Nat → Option FM) (g : Bool → Bool) (c : Nat) (ds : List D) (x : D) (ρ : Rho) : eOwn disp g (.node (.obj c) ds) x ρ = goO (fun m => bindE (callM (m [.node (.obj c) ds, x]) ρ) fun d ρ1 => goB (fun k => .ret (.ok (.bl (g k), ρ1))) d) (disp c) := by
  simp only [eOwn]
  cases disp c <;> rfl
@[simp] theorem eIn2_s (disp : Nat → Option FM) (g : Bool → Bool) (ma mb : EM D) (ρ : Rho) : eIn2 disp g ma mb ρ = bindE (ma ρ) fun x ρ1 => bindE (mb ρ1) fun o ρ2 => eOwn disp g o x ρ2 := rfl
@[simp] theorem eEq2_s (disp : Nat → Option FM) (ma mb : EM D) (ρ : Rho) : eEq2 disp ma mb ρ = bindE (ma ρ) fun x ρ1 => bindE (mb ρ1) fun y ρ2 => match x, y with
  | .node (.obj c) _, .node (.obj c') _ => if c = c' then eOwn disp id x y ρ2 else .stuck
  | _, _ => .stuck := rfl
@[simp] theorem ePn_s (ρ : Rho) : ePn ρ = .ret (.ok (none, ρ)) := rfl
@[simp] theorem eP1_s (m : EM D) (ρ : Rho) : eP1 m ρ = bindE (m ρ) fun d ρ1 => optE (partO d) ρ1 := rfl
@[simp] theorem partO_int (i : Int) : partO (.int i) = some (some i) := rfl
@[simp] theorem eSl_s (me : EM D) (ml mh : EM (Option Int)) (ρ : Rho) : eSl me ml mh ρ = bindE (me ρ) fun d ρ1 => bindE (ml ρ1) fun lo ρ2 => bindE (mh ρ2) fun hi ρ3 => optE (cutD d lo hi) ρ3 := rfl
def goS (k : List D → M (ER (List D))) : D → M (ER (List D))
  | .node .lst ds => k ds
  | .node .tup ds => k ds
  | _ => .stuck
@[simp] theorem goS_lst (k : List D → M (ER (List D))) (ds : List D) : goS k (.node .lst ds) = k ds := rfl
@[simp] theorem goS_tup (k : List D → M (ER (List D))) (ds : List D) : goS k (.node .tup ds) = k ds := rfl
@[simp] theorem eStar_s (ma : EM D) (mr : EM (List D)) (ρ : Rho) : eStar ma mr ρ = bindE (ma ρ) fun x ρ1 => goS (fun ds => bindE (mr ρ1) fun xs ρ2 => .ret (.ok (ds ++ xs, ρ2))) x := rfl
@[simp] theorem eNeg_s (m : EM D) (ρ : Rho) : eNeg m ρ = bindE (m ρ) fun d ρ1 => optE (negO d) ρ1 := rfl
def goI (k : D → M (ER D)) : D → M (ER D)
  | .node .lst ds => k (.node .lst ds)
  | _ => .stuck
@[simp] theorem goI_lst (k : D → M (ER D)) (ds : List D) : goI k (.node .lst ds) = k (.node .lst ds) := rfl
@[simp] theorem eIndex_s (mo ma : EM D) (ρ : Rho) : eIndex mo ma ρ = bindE (mo ρ) fun o ρ1 => goI (fun o => bindE (ma ρ1) fun y ρ2 => optE (indexO o y) ρ2) o := by
  unfold eIndex; congr 1; funext d ρ1
  cases d with
  | node t ds => cases t <;> rfl
  | _ => rfl
@[simp] theorem ePairs_nil (ks : List Key) (ds : List D) (ρ : Rho) : ePairs [] ks ds ρ = .ret (.ok ((ks, ds), ρ)) := rfl
def goK {α : Type} (k : Key → M (ER α)) : D → M (ER α)
  | .int i => k (.inl i)
  | .str s => k (.inr s)
  | _ => .stuck
@[simp] theorem goK_int {α : Type} (k : Key → M (ER α)) (i : Int) : goK k (.int i) = k (.inl i) := rfl
@[simp] theorem goK_str {α : Type} (k : Key → M (ER α)) (s : Str) : goK k (.str s) = k (.inr s) := rfl
@[simp] theorem ePairs_cons (p : EM D × EM D) (r : List (EM D × EM D)) (ks : List Key) (ds : List D) (ρ : Rho) : ePairs (p :: r) ks ds ρ = bindE (p.1 ρ) fun x ρ1 => bindE (p.2 ρ1) fun y ρ2 => goK (fun k => ePairs r (putKs ks k) (putDs ks ds k y) ρ2) x := by
  simp only [ePairs]
  congr 1; funext x ρ1; congr 1; funext y ρ2
  cases x <;> rfl
@[simp] theorem eDisp_s (ms : List (EM D × EM D)) (ρ : Rho) : eDisp ms ρ = bindE (ePairs ms [] [] ρ) fun p ρ1 => .ret (.ok ((.dct p.1, p.2), ρ1)) := rfl
@[simp] theorem goJ_str (k : Str → M (ER D)) (a : Str) : goJ k (.str a) = k a := rfl
@[simp] theorem eJoin_s (mo m : EM D) (ρ : Rho) : eJoin mo m ρ = bindE (mo ρ) fun x ρ1 => goJ (fun a => bindE (m ρ1) fun y ρ2 => optE (joinO a y) ρ2) x := rfl
@[simp] theorem eRep_s (m : EM (Tag × List D)) (q : Rho → Option D) (ρ : Rho) : eRep m q ρ = bindE (m ρ) fun p ρ1 => optE ((q ρ1).bind (repO p)) ρ1 := rfl
@[simp] theorem eCat_s (ma mb : EM D) (ρ : Rho) : eCat ma mb ρ = bindE (ma ρ) fun x ρ1 => bindE (mb ρ1) fun y ρ2 => optE (catO x y) ρ2 := rfl
def goL1 {α : Type} (k : M α) : Option Slot → M α
  | some (.own .lst _) => k
  | _ => .stuck
@[simp] theorem goL1_own {α : Type} (k : M α) (ds : List D) : goL1 k (some (.own .lst ds)) = k := rfl
def goL2 {α : Type} (k : List D → M α) : Option Slot → M α
  | some (.own .lst ds) => k ds
  | _ => .stuck
@[simp] theorem goL2_own {α : Type} (k : List D → M α) (ds : List D) : goL2 k (some (.own .lst ds)) = k ds := rfl
@[simp] theorem eMt_s (i : Nat) (f : List D → List D → Option (D × List D)) (ma : EM (List D)) (ρ : Rho) : eMt i f ma ρ = goL1 (bindE (ma ρ) fun as ρ1 => goL2 (fun ds => goO (fun p => .ret (.ok (p.1, ρ1.set i (.own .lst p.2)))) (f ds as)) ρ1[i]?) ρ[i]? := by
  have key : ∀ (as : List D) (ρ1 : Rho), (match ρ1[i]? with
    | some (.own .lst ds) => match f ds as with
      | some (d, ds') => fcL ds' fun ds' => fcR (ρ1.set i (.own .lst ds')) fun ρ2 => retE d ρ2
      | none => .stuck
    | _ => .stuck) = goL2 (fun ds => goO (fun p => M.ret (Except.ok (p.1, ρ1.set i (.own .lst p.2)))) (f ds as)) ρ1[i]? := by
    intro as ρ1
    cases ρ1[i]? with
    | none => rfl
    | some s =>
      cases s with
      | own t ds =>
        cases t with
        | lst =>
          simp only [goL2_own]
          cases f ds as with
          | none => rfl
          | some p => simp [goO]
        | _ => rfl
      | _ => rfl
  unfold eMt
  cases ρ[i]? with
  | none => rfl
  | some s =>
    cases s with
    | own t ds =>
      cases t with
      | lst =>
        simp only [goL1_own]
        congr 1
        funext as ρ1
        exact key as ρ1
      | _ => rfl
    | _ => rfl
@[simp] theorem eMt0_s (i : Nat) (f : List D → List D → Option (D × List D)) (ρ : Rho) : eMt0 i f ρ = goL2 (fun ds => goO (fun p => .ret (.ok (p.1, ρ.set i (.own .lst p.2)))) (f ds [])) ρ[i]? := by
  unfold eMt0
  cases ρ[i]? with
  | none => rfl
  | some s =>
    cases s with
    | own t ds =>
      cases t with
      | lst =>
        simp only [goL2_own]
        cases f ds [] with
        | none => rfl
        | some p => simp [goO]
      | _ => rfl
    | _ => rfl
@[simp] theorem fAppend_s (ds : List D) (y : D) : fAppend ds [y] = if ds.length < sz then some (.non, ds ++ [y]) else none := rfl
@[simp] theorem goO_none {α β : Type} (k : α → M (ER β)) : goO k none = .stuck := rfl
theorem goO_ite {α β : Type} (k : α → M (ER β)) (c : Prop) [Decidable c] (a b : Option α) : goO k (if c then a else b) = if c then goO k a else goO k b := by split <;> rfl
@[simp] theorem fExtend_lst (ds ys : List D) : fExtend ds [.node .lst ys] = if ds.length + ys.length ≤ sz then some (.non, ds ++ ys) else none := rfl
def goPs (k : M SR) : Option Slot → M SR
  | some (.own _ _) => k
  | _ => .stuck
@[simp] theorem goPs_own (k : M SR) (t : Tag) (ds : List D) : goPs k (some (.own t ds)) = k := rfl
def goPt (ρ : Rho) (i : Nat) : Option Slot → M SR
  | some s => .ret (.nx (ρ.set i s))
  | none => .stuck
@[simp] theorem goPt_some (ρ : Rho) (i : Nat) (s : Slot) : goPt ρ i (some s) = .ret (.nx (ρ.set i s)) := rfl
@[simp] theorem sPut_s (i : Nat) (mk mv : EM D) (ρ : Rho) : sPut i mk mv ρ = bindES (mv ρ) fun d ρ1 => goPs (bindES (mk ρ1) fun k ρ2 => goPt ρ2 i (putSlot ρ2[i]? k d)) ρ1[i]? := by
  unfold sPut
  congr 1
@[simp] theorem putSlot_dct (ks : List Key) (ds : List D) (s : Str) (d : D) : putSlot (some (.own (.dct ks) ds)) (.str s) d = if ks.length < sz then some (.own (.dct (putKs ks (.inr s))) (putDs ks ds (.inr s) d)) else none := rfl
@[simp] theorem putSlot_dctI (ks : List Key) (ds : List D) (s : Int) (d : D) : putSlot (some (.own (.dct ks) ds)) (.int s) d = if ks.length < sz then some (.own (.dct (putKs ks (.inl s))) (putDs ks ds (.inl s) d)) else none := rfl
@[simp] theorem putSlot_lst (ds : List D) (n : Int) (d : D) : putSlot (some (.own .lst ds)) (.int n) d = (ixN ds.length n).map fun j => .own .lst (ds.set j d) := rfl
/-! statements -/
@[simp] theorem sRet_s (m : EM D) (ρ : Rho) : sRet m ρ = bindES (m ρ) fun d _ => .ret (.rt d) := rfl
@[simp] theorem sRetN_s (ρ : Rho) : sRetN ρ = .ret (.rt .non) := rfl
@[simp] theorem sPass_s (ρ : Rho) : sPass ρ = .ret (.nx ρ) := rfl
@[simp] theorem sBrk_s (ρ : Rho) : sBrk ρ = .ret (.bk ρ) := rfl
@[simp] theorem sCnt_s (ρ : Rho) : sCnt ρ = .ret (.ct ρ) := rfl
@[simp] theorem sSeq_s (m n : SM) (ρ : Rho) : sSeq m n ρ = bindS (m ρ) n := rfl
@[simp] theorem sIf_s (c : EM Bool) (m n : SM) (ρ : Rho) : sIf c m n ρ = bindES (c ρ) fun b ρ1 => if b then m ρ1 else n ρ1 := rfl
@[simp] theorem sDrop_s (m : EM D) (ρ : Rho) : sDrop m ρ = bindES (m ρ) fun _ ρ1 => .ret (.nx ρ1) := rfl
@[simp] theorem sSet_s (i : Nat) (m : EM D) (ρ : Rho) : sSet i m ρ = bindES (m ρ) fun d ρ1 => .ret (.nx (ρ1.set i (.val d))) := by simp [sSet]
@[simp] theorem sNew_s (i : Nat) (m : EM (Tag × List D)) (ρ : Rho) : sNew i m ρ = bindES (m ρ) fun p ρ1 => if i < ρ1.length then .ret (.nx (ρ1.set i (.own p.1 p.2))) else .stuck := by simp [sNew]
def goA (ρ : Option Rho) : M SR := match ρ with
  | some ρ => .ret (.nx ρ)
  | none => .stuck
@[simp] theorem goA_some (ρ : Rho) : goA (some ρ) = .ret (.nx ρ) := rfl
@[simp] theorem sAsg_s (m : EM D) (g : GM) (ρ : Rho) : sAsg m g ρ = bindES (m ρ) fun d ρ1 => goA (g d ρ1) := by
  unfold sAsg; congr 1; funext d ρ1
  rw [fcD_s]
  cases g d ρ1 <;> simp [goA]
@[simp] theorem gSet_s (i : Nat) (d : D) (ρ : Rho) : gSet i d ρ = some (ρ.set i (.val d)) := rfl
@[simp] theorem gsNil_s (ρ : Rho) : gsNil [] ρ = some ρ := rfl
@[simp] theorem gsCons_s (g : GM) (m : List D → Rho → Option Rho) (d : D) (ds : List D) (ρ : Rho) : gsCons g m (d :: ds) ρ = (g d ρ).bind (m ds) := rfl
@[simp] theorem gTupD_s (n : Nat) (m : List D → Rho → Option Rho) (ds : List D) (ρ : Rho) : gTupD n m (.node .tup ds) ρ = if ds.length = n then m ds ρ else none := rfl
@[simp] theorem gTupD_l (n : Nat) (m : List D → Rho → Option Rho) (ds : List D) (ρ : Rho) : gTupD n m (.node .lst ds) ρ = if ds.length = n then m ds ρ else none := rfl
@[simp] theorem sFor_s (it : EM (List D)) (g : GM) (body : SM) (ρ : Rho) : sFor it g body ρ = bindES (it ρ) fun xs ρ1 => forGo g body xs ρ1 := by simp [sFor]
@[simp] theorem sRaise_s (c : Nat) (m : EM (List D)) (ρ : Rho) : sRaise c m ρ = bindES (m ρ) fun ds ρ1 => if ds.length = 1 then .ret (.ex ⟨c, ds⟩ ρ1) else .stuck := rfl
def goFl (c i : Nat) (f : Str) (d : D) (ρ : Rho) : Option Slot → M SR
  | some (.own (.obj c') ds) => if c' = c ∧ (cf c).length < 1000 then goPt ρ i ((putFld (cf c) ds f d).map fun ds' => .own (.obj c) ds') else .stuck
  | _ => .stuck
@[simp] theorem goFl_own (c i : Nat) (f : Str) (d : D) (ρ : Rho) (c' : Nat) (ds : List D) : goFl c i f d ρ (some (.own (.obj c') ds)) = if c' = c ∧ (cf c).length < 1000 then goPt ρ i ((putFld (cf c) ds f d).map fun ds' => .own (.obj c) ds') else .stuck := rfl
@[simp] theorem sFldD_s (c i : Nat) (f : Str) (mv : EM D) (ρ : Rho) : sFldD c i f mv ρ = bindES (mv ρ) fun d ρ1 => goFl c i f d ρ1 ρ1[i]? := by
  unfold sFldD
  congr 1; funext d ρ1
  cases ρ1[i]? with
  | none => rfl
  | some s =>
    cases s with
    | own t ds =>
      cases t with
      | obj c' =>
        simp only [goFl_own]
        split
        · cases putFld (cf c) ds f d <;> rfl
        · rfl
      | _ => rfl
    | _ => rfl
/-! runs of defs -/
def outD : SR → M (Except Err D)
  | .nx _ => .ret (.ok .non)
  | .rt d => .ret (.ok d)
  | .ex e _ => .ret (.error e)
  | .bk _ => .stuck
  | .ct _ => .stuck
@[simp] theorem runD_s (n : Nat) (m : SM) (ds : List D) : runD n m ds = (m (startR n ds)).bind outD := by
  simp only [runD, fcL_s, fcR_s]
  rfl
@[simp] theorem outD_nx (ρ : Rho) : outD (.nx ρ) = .ret (.ok .non) := rfl
@[simp] theorem outD_rt (d : D) : outD (.rt d) = .ret (.ok d) := rfl
@[simp] theorem outD_ex (e : Err) (ρ : Rho) : outD (.ex e ρ) = .ret (.error e) := rfl
def goOwn (c : Nat) (k : List D → M (Except Err (List D))) : Option (Nat × List D) → M (Except Err (List D))
  | some p => if p.1 = c ∧ whole (.obj c) p.2 = true then k p.2 else .stuck
  | none => .stuck
def outO (c : Nat) : SR → M (Except Err (List D))
  | .nx ρ => match own0 ρ with
    | some p => if p.1 = c ∧ whole (.obj c) p.2 = true then .ret (.ok p.2) else .stuck
    | none => .stuck
  | .ex e ρ => match own0 ρ with
    | some _ => .ret (.error e)
    | none => .stuck
  | _ => .stuck
@[simp] theorem runI_s (c n : Nat) (m : SM) (ds : List D) : runI c n m ds = (m (startI c n ds)).bind (outO c) := by
  simp only [runI, fcL_s, fcR_s]
  rfl
@[simp] theorem startR_s (n : Nat) (ds : List D) : startR n ds = ds.map Slot.val ++ List.replicate (n - ds.length) Slot.none := rfl
@[simp] theorem startI_s (c n : Nat) (ds : List D) : startI c n ds = ((startR n (.non :: ds)).set 0 (.own (.obj c) [])) := rfl
theorem sz_val : sz = 16777216 := rfl
/-! operators -/
@[simp] theorem leO_int (i j : Int) : leO (.int i) (.int j) = some (.bl (decide (i ≤ j))) := rfl
@[simp] theorem ltO_int (i j : Int) : ltO (.int i) (.int j) = some (.bl (decide (i < j))) := rfl
@[simp] theorem gtO_int (i j : Int) : gtO (.int i) (.int j) = some (.bl (decide (j < i))) := rfl
@[simp] theorem geO_int (i j : Int) : geO (.int i) (.int j) = some (.bl (decide (j ≤ i))) := rfl
@[simp] theorem addO_int (i j : Int) : addO (.int i) (.int j) = some (.int (i + j)) := rfl
@[simp] theorem subO_int (i j : Int) : subO (.int i) (.int j) = some (.int (i - j)) := rfl
@[simp] theorem lenO_lst (ds : List D) : lenO (.node .lst ds) = some (.int ds.length) := rfl
@[simp] theorem lenO_tup (ds : List D) : lenO (.node .tup ds) = some (.int ds.length) := rfl
@[simp] theorem lenO_dct (ks : List Key) (ds : List D) : lenO (.node (.dct ks) ds) = some (.int ks.length) := rfl
@[simp] theorem tupleO_lst (ds : List D) : tupleO (.node .lst ds) = some (.node .tup ds) := rfl
@[simp] theorem tupleO_tup (ds : List D) : tupleO (.node .tup ds) = some (.node .tup ds) := rfl
@[simp] theorem listO_lst (ds : List D) : listO (.node .lst ds) = some (.lst, ds) := rfl
@[simp] theorem listO_tup (ds : List D) : listO (.node .tup ds) = some (.lst, ds) := rfl
@[simp] theorem listO_dct (ks : List Key) (ds : List D) : listO (.node (.dct ks) ds) = some (.lst, ks.map dK') := rfl
@[simp] theorem itemsD_lst (ds : List D) : itemsD (.node .lst ds) = some ds := rfl
@[simp] theorem itemsD_tup (ds : List D) : itemsD (.node .tup ds) = some ds := rfl
@[simp] theorem itemsD_dct (ks : List Key) (ds : List D) : itemsD (.node (.dct ks) ds) = some (ks.map dK') := rfl
@[simp] theorem negO_int (i : Int) : negO (.int i) = some (.int (-i)) := rfl
@[simp] theorem ixO_lst (ds : List D) (i : Int) : ixO (.node .lst ds) (.int i) = atI ds i := rfl
@[simp] theorem ixO_tup (ds : List D) (i : Int) : ixO (.node .tup ds) (.int i) = atI ds i := rfl
@[simp] theorem ixO_dct (ks : List Key) (ds : List D) (s : Str) : ixO (.node (.dct ks) ds) (.str s) = lk ks ds (.inr s) := rfl
@[simp] theorem tyD_int (i : Int) : tyD (.int i) = some 2 := rfl
@[simp] theorem tyD_str (i : Str) : tyD (.str i) = some 3 := rfl
@[simp] theorem tyD_bl (i : Bool) : tyD (.bl i) = some 1 := rfl
@[simp] theorem tyD_non : tyD .non = some 0 := rfl
@[simp] theorem tyD_lst (ds : List D) : tyD (.node .lst ds) = some 4 := rfl
@[simp] theorem tyD_tup (ds : List D) : tyD (.node .tup ds) = some 5 := rfl
@[simp] theorem tyD_dct (ks : List Key) (ds : List D) : tyD (.node (.dct ks) ds) = some 6 := rfl
@[simp] theorem isi_int_0 : isi_int 0 = some false := rfl
@[simp] theorem isi_int_1 : isi_int 1 = some true := rfl
@[simp] theorem isi_int_2 : isi_int 2 = some true := rfl
@[simp] theorem isi_int_3 : isi_int 3 = some false := rfl
@[simp] theorem isi_int_4 : isi_int 4 = some false := rfl
@[simp] theorem isi_int_5 : isi_int 5 = some false := rfl
@[simp] theorem isi_int_6 : isi_int 6 = some false := rfl
@[simp] theorem isi_bool_0 : isi_bool 0 = some false := rfl
@[simp] theorem isi_bool_1 : isi_bool 1 = some true := rfl
@[simp] theorem isi_bool_2 : isi_bool 2 = some false := rfl
@[simp] theorem isi_bool_3 : isi_bool 3 = some false := rfl
@[simp] theorem isi_bool_4 : isi_bool 4 = some false := rfl
@[simp] theorem isi_bool_5 : isi_bool 5 = some false := rfl
@[simp] theorem isi_bool_6 : isi_bool 6 = some false := rfl
@[simp] theorem isi_str_0 : isi_str 0 = some false := rfl
@[simp] theorem isi_str_1 : isi_str 1 = some false := rfl
@[simp] theorem isi_str_2 : isi_str 2 = some false := rfl
@[simp] theorem isi_str_3 : isi_str 3 = some true := rfl
@[simp] theorem isi_str_4 : isi_str 4 = some false := rfl
@[simp] theorem isi_str_5 : isi_str 5 = some false := rfl
@[simp] theorem isi_str_6 : isi_str 6 = some false := rfl
@[simp] theorem isi_dict_0 : isi_dict 0 = some false := rfl
@[simp] theorem isi_dict_1 : isi_dict 1 = some false := rfl
@[simp] theorem isi_dict_2 : isi_dict 2 = some false := rfl
@[simp] theorem isi_dict_3 : isi_dict 3 = some false := rfl
@[simp] theorem isi_dict_4 : isi_dict 4 = some false := rfl
@[simp] theorem isi_dict_5 : isi_dict 5 = some false := rfl
@[simp] theorem isi_dict_6 : isi_dict 6 = some true := rfl
@[simp] theorem isi_list_0 : isi_list 0 = some false := rfl
@[simp] theorem isi_list_1 : isi_list 1 = some false := rfl
@[simp] theorem isi_list_2 : isi_list 2 = some false := rfl
@[simp] theorem isi_list_3 : isi_list 3 = some false := rfl
@[simp] theorem isi_list_4 : isi_list 4 = some true := rfl
@[simp] theorem isi_list_5 : isi_list 5 = some false := rfl
@[simp] theorem isi_list_6 : isi_list 6 = some false := rfl
@[simp] theorem isi_tuple_0 : isi_tuple 0 = some false := rfl
@[simp] theorem isi_tuple_1 : isi_tuple 1 = some false := rfl
@[simp] theorem isi_tuple_2 : isi_tuple 2 = some false := rfl
@[simp] theorem isi_tuple_3 : isi_tuple 3 = some false := rfl
@[simp] theorem isi_tuple_4 : isi_tuple 4 = some false := rfl
@[simp] theorem isi_tuple_5 : isi_tuple 5 = some true := rfl
@[simp] theorem isi_tuple_6 : isi_tuple 6 = some false := rfl
@[simp] theorem isi_list_tuple_0 : isi_list_tuple 0 = some false := rfl
@[simp] theorem isi_list_tuple_1 : isi_list_tuple 1 = some false := rfl
@[simp] theorem isi_list_tuple_2 : isi_list_tuple 2 = some false := rfl
@[simp] theorem isi_list_tuple_3 : isi_list_tuple 3 = some false := rfl
@[simp] theorem isi_list_tuple_4 : isi_list_tuple 4 = some true := rfl
@[simp] theorem isi_list_tuple_5 : isi_list_tuple 5 = some true := rfl
@[simp] theorem isi_list_tuple_6 : isi_list_tuple 6 = some false := rfl
end DL

/-! SG: loops, equality, order, of mirrors. -/
namespace DL
open PySem PySem.Spec PyProof.Rows L2 PySem.W
/-! ### what holds of all ends of a run (a structure: nobody works it out unasked) -/
structure WP {α : Type} (m : M α) (Q : α → Prop) : Prop where
  go : m.wp Q
section
variable {α β : Type}
theorem WP_ret {a : α} {Q : α → Prop} (h : Q a) : WP (.ret a) Q := ⟨h⟩
theorem WP_draw {n : Int} {k : Int → M α} {Q : α → Prop} (h0 : 0 < n) (h : ∀ r, 0 ≤ r → r < n → WP (k r) Q) : WP (.draw n k) Q := ⟨⟨h0, fun r a b => (h r a b).go⟩⟩
theorem WP.mono {m : M α} {P Q : α → Prop} (h : WP m P) (i : ∀ a, P a → Q a) : WP m Q := ⟨M.wp_mono i h.go⟩
theorem WP_bind {m : M α} {f : α → M β} {Q : β → Prop} (h : WP m fun a => WP (f a) Q) : WP (m.bind f) Q := ⟨M.wp_bind.mpr (M.wp_mono (fun a q => q.go) h.go)⟩
theorem WP_eq {m : M α} {a : α} {Q : α → Prop} (e : m = .ret a) (h : Q a) : WP m Q := by rw [e]; exact ⟨h⟩
end
theorem WP_bindE {α β : Type} {m : M (ER α)} {f : α → Rho → M (ER β)} {Q : ER β → Prop} (P : α → Rho → Prop) (h : WP m fun r => ∃ a ρ, r = .ok (a, ρ) ∧ P a ρ) (k : ∀ a ρ, P a ρ → WP (f a ρ) Q) : WP (bindE m f) Q := by
  refine WP_bind (h.mono ?_)
  rintro _ ⟨a, ρ, rfl, p⟩
  exact k a ρ p
theorem WP_bindN {α β : Type} {m : M (ER α)} {f : α → Rho → M (ER β)} {Q : ER β → Prop} (P : α → Rho → Prop) (h : WP m fun r => ∃ a ρ, r = .ok (a, ρ) ∧ P a ρ) (k : ∀ a ρ, P a ρ → WP (f a ρ) Q) : WP (bindN m f) Q := by
  refine WP_bind (h.mono ?_)
  rintro _ ⟨a, ρ, rfl, p⟩
  exact k a ρ p
theorem WP_bindES {α : Type} {m : M (ER α)} {f : α → Rho → M SR} {Q : SR → Prop} (P : α → Rho → Prop) (h : WP m fun r => ∃ a ρ, r = .ok (a, ρ) ∧ P a ρ) (k : ∀ a ρ, P a ρ → WP (f a ρ) Q) : WP (bindES m f) Q := by
  refine WP_bind (h.mono ?_)
  rintro _ ⟨a, ρ, rfl, p⟩
  exact k a ρ p
theorem WP_seq {m n : SM} {ρ : Rho} {Q : SR → Prop} (P : Rho → Prop) (h : WP (m ρ) fun r => ∃ ρ', r = .nx ρ' ∧ P ρ') (k : ∀ ρ', P ρ' → WP (n ρ') Q) : WP (sSeq m n ρ) Q := by
  refine WP_bind (h.mono ?_)
  rintro _ ⟨ρ', rfl, p⟩
  exact k ρ' p
theorem WP_seq1 {m n : SM} {ρ ρ' : Rho} {Q : SR → Prop} (e : m ρ = .ret (.nx ρ')) (k : WP (n ρ') Q) : WP (sSeq m n ρ) Q := by
  rw [sSeq_s, e, bindS_nx]; exact k
theorem WP_runD {n : Nat} {m : SM} {ds : List D} {Q : Except Err D → Prop} (h : WP (m (startR n ds)) fun r => ∃ d, r = .rt d ∧ Q (.ok d)) : WP (runD n m ds) Q := by
  rw [runD_s]
  refine WP_bind (h.mono ?_)
  rintro _ ⟨d, rfl, p⟩
  exact ⟨p⟩
/-! ### for -/
/-- behind one turn of a for -/
def nxF (k : Rho → M SR) : SR → M SR
  | .nx ρ2 => k ρ2
  | .ct ρ2 => k ρ2
  | .bk ρ2 => .ret (.nx ρ2)
  | .rt d => .ret (.rt d)
  | .ex e ρ2 => .ret (.ex e ρ2)
@[simp] theorem nxF_nx (k : Rho → M SR) (ρ : Rho) : nxF k (.nx ρ) = k ρ := rfl
@[simp] theorem nxF_ct (k : Rho → M SR) (ρ : Rho) : nxF k (.ct ρ) = k ρ := rfl
@[simp] theorem nxF_bk (k : Rho → M SR) (ρ : Rho) : nxF k (.bk ρ) = .ret (.nx ρ) := rfl
@[simp] theorem nxF_rt (k : Rho → M SR) (d : D) : nxF k (.rt d) = .ret (.rt d) := rfl
@[simp] theorem nxF_ex (k : Rho → M SR) (e : Err) (ρ : Rho) : nxF k (.ex e ρ) = .ret (.ex e ρ) := rfl
theorem forGo_nil (g : GM) (body : SM) (ρ : Rho) : forGo g body [] ρ = .ret (.nx ρ) := rfl
theorem forGo_cons (g : GM) (body : SM) (x : D) (xs : List D) (ρ : Rho) : forGo g body (x :: xs) ρ = match g x ρ with
    | none => .stuck
    | some ρ1 => (body ρ1).bind (nxF (forGo g body xs)) := by
  simp only [forGo, fcD_s, fcR_s]
  cases g x ρ with
  | none => rfl
  | some ρ1 =>
    show M.bind _ _ = M.bind _ _
    congr 1
theorem forGo_set (i : Nat) (body : SM) (x : D) (xs : List D) (ρ : Rho) : forGo (gSet i) body (x :: xs) ρ = (body (ρ.set i (.val x))).bind (nxF (forGo (gSet i) body xs)) := by
  rw [forGo_cons]; rfl
/-- a for by an invariant: no turn leaves it -/
theorem forGo_WP {g : GM} {body : SM} (I : List D → Rho → Prop)
    (hs : ∀ x xs ρ, I (x :: xs) ρ → ∃ ρ1, g x ρ = some ρ1 ∧ WP (body ρ1) fun r => ∃ ρ2, r = .nx ρ2 ∧ I xs ρ2) : ∀ xs ρ, I xs ρ → WP (forGo g body xs ρ) fun r => ∃ ρ', r = .nx ρ' ∧ I [] ρ'
  | [], ρ, h => ⟨⟨ρ, rfl, h⟩⟩
  | x :: xs, ρ, h => by
    obtain ⟨ρ1, e, q⟩ := hs x xs ρ h
    rw [forGo_cons, e]
    refine WP_bind (q.mono ?_)
    rintro _ ⟨ρ2, rfl, z⟩
    exact forGo_WP I hs xs ρ2 z
/-- a for whose turns all go on -/
theorem forGo_pass {g : GM} {body : SM} (I : Rho → Prop) : ∀ (xs : List D) (ρ : Rho), I ρ → (∀ x ∈ xs, ∀ ρ, I ρ → ∃ ρ1 ρ2, g x ρ = some ρ1 ∧ body ρ1 = .ret (.nx ρ2) ∧ I ρ2) → ∃ ρ', I ρ' ∧ forGo g body xs ρ = .ret (.nx ρ')
  | [], ρ, h, _ => ⟨ρ, h, rfl⟩
  | x :: xs, ρ, h, hs => by
    obtain ⟨ρ1, ρ2, e1, e2, e3⟩ := hs x List.mem_cons_self ρ h
    obtain ⟨ρ', q1, q2⟩ := forGo_pass I xs ρ2 e3 fun y hy => hs y (List.mem_cons_of_mem _ hy)
    refine ⟨ρ', q1, ?_⟩
    rw [forGo_cons, e1]
    simp [e2, q2]
/-- .. that carry a value -/
theorem forGo_fold {α : Type} {g : GM} {body : SM} (I : α → Rho → Prop) (f : α → D → α) : ∀ (xs : List D) (a : α) (ρ : Rho), I a ρ → (∀ x ∈ xs, ∀ a ρ, I a ρ → ∃ ρ1 ρ2, g x ρ = some ρ1 ∧ body ρ1 = .ret (.nx ρ2) ∧ I (f a x) ρ2) → ∃ ρ', I (xs.foldl f a) ρ' ∧ forGo g body xs ρ = .ret (.nx ρ')
  | [], a, ρ, h, _ => ⟨ρ, h, rfl⟩
  | x :: xs, a, ρ, h, hs => by
    obtain ⟨ρ1, ρ2, e1, e2, e3⟩ := hs x List.mem_cons_self a ρ h
    obtain ⟨ρ', q1, q2⟩ := forGo_fold I f xs (f a x) ρ2 e3 fun y hy => hs y (List.mem_cons_of_mem _ hy)
    refine ⟨ρ', q1, ?_⟩
    rw [forGo_cons, e1]
    simp [e2, q2]
/-- .. over items k b -/
theorem forGo_foldT {α β : Type} {g : GM} {body : SM} (k : β → D) (I : α → Rho → Prop) (f : α → β → α) : ∀ (bs : List β) (a : α) (ρ : Rho), I a ρ → (∀ b ∈ bs, ∀ a ρ, I a ρ → ∃ ρ1 ρ2, g (k b) ρ = some ρ1 ∧ body ρ1 = .ret (.nx ρ2) ∧ I (f a b) ρ2) → ∃ ρ', I (bs.foldl f a) ρ' ∧ forGo g body (bs.map k) ρ = .ret (.nx ρ')
  | [], a, ρ, h, _ => ⟨ρ, h, rfl⟩
  | b :: bs, a, ρ, h, hs => by
    obtain ⟨ρ1, ρ2, e1, e2, e3⟩ := hs b List.mem_cons_self a ρ h
    obtain ⟨ρ', q1, q2⟩ := forGo_foldT k I f bs (f a b) ρ2 e3 fun y hy => hs y (List.mem_cons_of_mem _ hy)
    refine ⟨ρ', q1, ?_⟩
    rw [List.map_cons, forGo_cons, e1]
    simp [e2, q2]
/-! ### comprehensions -/
theorem lcGo_nil (vs : List Nat) (g : GM) (tt : EM Bool) (te : EM D) (ρ : Rho) : lcGo vs g tt te [] ρ = .ret (.ok ([], ρ)) := rfl
theorem lcGo_cons (vs : List Nat) (g : GM) (tt : EM Bool) (te : EM D) (x : D) (xs : List D) (ρ : Rho) : lcGo vs g tt te (x :: xs) ρ = match g x (wipeR ρ vs) with
    | none => .stuck
    | some ρ1 => bindN (tt ρ1) fun b ρ2 => if b then bindN (te ρ2) fun y ρ3 => bindE (lcGo vs g tt te xs ρ3) fun ys ρ4 => .ret (.ok (y :: ys, ρ4)) else lcGo vs g tt te xs ρ2 := by
  simp only [lcGo, fcD_s, fcR_s, retE_def]
  all_goals rfl
/-- one turn of a comprehension without draws: what is kept, if anything -/
def LcTurn (vs : List Nat) (g : GM) (tt : EM Bool) (te : EM D) (ρ0 : Rho) (x : D) : Option D → Prop
  | some y => ∃ ρ1 ρ2 ρ3, g x ρ0 = some ρ1 ∧ tt ρ1 = .ret (.ok (true, ρ2)) ∧ te ρ2 = .ret (.ok (y, ρ3)) ∧ wipeR ρ3 vs = ρ0
  | none => ∃ ρ1 ρ2, g x ρ0 = some ρ1 ∧ tt ρ1 = .ret (.ok (false, ρ2)) ∧ wipeR ρ2 vs = ρ0
theorem lcGo_pure {vs : List Nat} {g : GM} {tt : EM Bool} {te : EM D} {f : D → Option D} {ρ0 : Rho} : ∀ {xs : List D} {ρ : Rho}, wipeR ρ vs = ρ0 → (∀ x ∈ xs, LcTurn vs g tt te ρ0 x (f x)) →
    ∃ ρ', wipeR ρ' vs = ρ0 ∧ lcGo vs g tt te xs ρ = .ret (.ok (xs.filterMap f, ρ'))
  | [], ρ, h0, _ => ⟨ρ, h0, rfl⟩
  | x :: xs, ρ, h0, h => by
    have hx := h x List.mem_cons_self
    rw [lcGo_cons, h0]
    cases e : f x with
    | none =>
      rw [e] at hx
      obtain ⟨ρ1, ρ2, e1, e2, e3⟩ := hx
      obtain ⟨ρ', q1, q2⟩ := lcGo_pure (f := f) (ρ0 := ρ0) e3 fun y hy => h y (List.mem_cons_of_mem _ hy)
      refine ⟨ρ', q1, ?_⟩
      rw [e1]
      simp [e2, q2, e]
    | some y =>
      rw [e] at hx
      obtain ⟨ρ1, ρ2, ρ3, e1, e2, e3, e4⟩ := hx
      obtain ⟨ρ', q1, q2⟩ := lcGo_pure (f := f) (ρ0 := ρ0) e4 fun y hy => h y (List.mem_cons_of_mem _ hy)
      refine ⟨ρ', q1, ?_⟩
      rw [e1]
      simp [e2, e3, q2, e]
/-- a comprehension without draws -/
theorem eLc_pure {it : EM (List D)} {vs : List Nat} {g : GM} {tt : EM Bool} {te : EM D} {ρ ρ1 : Rho} {xs : List D} (f : D → Option D)
    (hi : it ρ = .ret (.ok (xs, ρ1))) (hl : xs.length ≤ sz) (h : ∀ x ∈ xs, LcTurn vs g tt te (wipeR ρ1 vs) x (f x)) :
    eLc it vs g tt te ρ = .ret (.ok ((.lst, xs.filterMap f), wipeR ρ1 vs)) := by
  obtain ⟨ρ', q1, q2⟩ := lcGo_pure (f := f) (ρ0 := wipeR ρ1 vs) rfl h
  simp [eLc, hi, hl, q2, q1]
/-- .. over items f a, without a test -/
theorem eLc_map {α : Type} {it : EM (List D)} {vs : List Nat} {g : GM} {te : EM D} {ρ ρ1 : Rho} {as : List α} (f : α → D) (k : α → D)
    (hi : it ρ = .ret (.ok (as.map f, ρ1))) (hl : as.length ≤ sz) (h : ∀ a ∈ as, ∃ ρ2 ρ3, g (f a) (wipeR ρ1 vs) = some ρ2 ∧ te ρ2 = .ret (.ok (k a, ρ3)) ∧ wipeR ρ3 vs = wipeR ρ1 vs) :
    eLc it vs g eYes te ρ = .ret (.ok ((.lst, as.map k), wipeR ρ1 vs)) := by
  have key : ∀ (as : List α) (ρ : Rho), wipeR ρ vs = wipeR ρ1 vs → (∀ a ∈ as, ∃ ρ2 ρ3, g (f a) (wipeR ρ1 vs) = some ρ2 ∧ te ρ2 = .ret (.ok (k a, ρ3)) ∧ wipeR ρ3 vs = wipeR ρ1 vs) →
      ∃ ρ', wipeR ρ' vs = wipeR ρ1 vs ∧ lcGo vs g eYes te (as.map f) ρ = .ret (.ok (as.map k, ρ')) := by
    intro as
    induction as with
    | nil => exact fun ρ h0 _ => ⟨ρ, h0, rfl⟩
    | cons a as ih =>
      intro ρ h0 h
      obtain ⟨ρ2, ρ3, e1, e2, e3⟩ := h a List.mem_cons_self
      obtain ⟨ρ', q1, q2⟩ := ih ρ3 e3 fun b hb => h b (List.mem_cons_of_mem _ hb)
      refine ⟨ρ', q1, ?_⟩
      rw [List.map_cons, lcGo_cons, h0, e1]
      simp [eYes, e2, q2]
  obtain ⟨ρ', q1, q2⟩ := key as ρ1 rfl h
  simp [eLc, hi, hl, q2, q1]
theorem wipeR_gt {ρ : Rho} {j : Nat} : ∀ (vs : List Nat), (wipeR ρ vs)[j]? = if j ∈ vs then ρ[j]?.map (fun _ => Slot.none) else ρ[j]?
  | [] => by simp [wipeR]
  | v :: vs => by
    show ((wipeR ρ vs).set v Slot.none)[j]? = _
    by_cases hj : v = j
    · subst hj
      rw [List.getElem?_set_self']
      simp only [List.mem_cons, true_or, if_true]
      rw [wipeR_gt vs]
      split
      · cases ρ[v]? <;> rfl
      · cases ρ[v]? <;> rfl
    · rw [List.getElem?_set_ne hj, wipeR_gt vs]
      have : j ∈ v :: vs ↔ j ∈ vs := by simp [Ne.symm hj, eq_comm, hj]
      simp only [this]
theorem wipeR_set {ρ : Rho} {i : Nat} {x : Slot} {vs : List Nat} (h : i ∈ vs) : wipeR (ρ.set i x) vs = wipeR ρ vs := by
  refine List.ext_getElem? fun j => ?_
  rw [wipeR_gt, wipeR_gt]
  by_cases hj : i = j
  · subst hj
    rw [if_pos h, if_pos h, List.getElem?_set_self']
    cases ρ[i]? <;> rfl
  · rw [List.getElem?_set_ne hj]
theorem wipeR_idem {ρ : Rho} {vs : List Nat} : wipeR (wipeR ρ vs) vs = wipeR ρ vs := by
  refine List.ext_getElem? fun j => ?_
  rw [wipeR_gt, wipeR_gt]
  split
  · cases ρ[j]? <;> rfl
  · rfl
theorem eLc_map1 {α : Type} {it : EM (List D)} {vs : List Nat} {i : Nat} {te : EM D} {ρ ρ1 : Rho} {as : List α} (f : α → D) (k : α → D) (hv : i ∈ vs)
    (hi : it ρ = .ret (.ok (as.map f, ρ1))) (hl : as.length ≤ sz) (h : ∀ a ∈ as, te ((wipeR ρ1 vs).set i (.val (f a))) = .ret (.ok (k a, (wipeR ρ1 vs).set i (.val (f a))))) :
    eLc it vs (gSet i) eYes te ρ = .ret (.ok ((.lst, as.map k), wipeR ρ1 vs)) :=
  eLc_map f k hi hl fun a ha => ⟨_, _, rfl, h a ha, by rw [wipeR_set hv, wipeR_idem]⟩
/-- a comprehension with draws: what holds of each -/
theorem lcGo_WP {vs : List Nat} {g : GM} {te : EM D} {ρ0 : Rho} (R : List D → List D → Prop)
    (hs : ∀ x xs done, R done (x :: xs) → ∃ ρ1, g x ρ0 = some ρ1 ∧ WP (te ρ1) fun r => ∃ y ρ2, r = .ok (y, ρ2) ∧ wipeR ρ2 vs = ρ0 ∧ R (done ++ [y]) xs)
    : ∀ (xs done : List D) (ρ : Rho), wipeR ρ vs = ρ0 → R done xs → WP (lcGo vs g eYes te xs ρ) fun r => ∃ ys ρ', r = .ok (ys, ρ') ∧ wipeR ρ' vs = ρ0 ∧ R (done ++ ys) []
  | [], done, ρ, h0, r => by
    rw [lcGo_nil]
    exact ⟨⟨[], ρ, rfl, h0, by simpa using r⟩⟩
  | x :: xs, done, ρ, h0, r => by
    obtain ⟨ρ1, e1, e2⟩ := hs x xs done r
    rw [lcGo_cons, h0, e1]
    simp only [eYes, retE_def, bindN_ok, if_true]
    refine WP_bindN (fun y ρ2 => wipeR ρ2 vs = ρ0 ∧ R (done ++ [y]) xs) e2 ?_
    rintro y ρ2 ⟨z1, z2⟩
    refine WP_bindE (fun ys ρ' => wipeR ρ' vs = ρ0 ∧ R ((done ++ [y]) ++ ys) []) (lcGo_WP R hs xs (done ++ [y]) ρ2 z1 z2) ?_
    rintro ys ρ' ⟨h1, h2⟩
    exact ⟨⟨y :: ys, ρ', rfl, h1, by simpa using h2⟩⟩
theorem eLc_WP {it : EM (List D)} {vs : List Nat} {g : GM} {te : EM D} {ρ ρ1 : Rho} {xs : List D} (R : List D → List D → Prop)
    (hi : it ρ = .ret (.ok (xs, ρ1))) (hl : xs.length ≤ sz) (r0 : R [] xs)
    (hs : ∀ x xs done, R done (x :: xs) → ∃ ρ2, g x (wipeR ρ1 vs) = some ρ2 ∧ WP (te ρ2) fun r => ∃ y ρ3, r = .ok (y, ρ3) ∧ wipeR ρ3 vs = wipeR ρ1 vs ∧ R (done ++ [y]) xs) :
    WP (eLc it vs g eYes te ρ) fun r => ∃ p ρ', r = .ok (p, ρ') ∧ ρ' = wipeR ρ1 vs ∧ ∃ ys, p = (.lst, ys) ∧ R ys [] := by
  unfold eLc
  rw [hi, bindE_k, if_pos hl]
  refine WP_bindE (fun ys ρ' => wipeR ρ' vs = wipeR ρ1 vs ∧ R ([] ++ ys) []) (lcGo_WP (ρ0 := wipeR ρ1 vs) R hs xs [] ρ1 rfl r0) ?_
  rintro ys ρ' ⟨h1, h2⟩
  exact ⟨⟨_, _, rfl, h1, ys, rfl, by simpa using h2⟩⟩
/-! ### ranges -/
theorem rgFrom_is : ∀ (n : Nat) (i : Int), rgFrom n i = (List.range n).map fun (k : Nat) => D.int (i + k)
  | 0, _ => rfl
  | n + 1, i => by
    rw [rgFrom, rgFrom_is n, List.range_succ_eq_map]
    simp only [List.map_cons, List.map_map, Int.natCast_zero, Int.add_zero]
    congr 1
    refine List.map_congr_left fun k _ => ?_
    simp only [Function.comp, D.int.injEq]
    push_cast; omega
abbrev dN (n : Nat) : D := .int n
theorem rngD1_nat (n : Nat) (h : n < 4611686018427387904) : rngD1 [.int n] = some ((List.range n).map dN) := by
  have : rgOk (n : Int) = true := by
    unfold rgOk; rw [Bool.and_eq_true, decide_eq_true_eq, decide_eq_true_eq]; omega
  unfold rngD1
  dsimp only
  rw [if_pos this, Int.toNat_natCast, rgFrom_is]
  exact congrArg some (List.map_congr_left fun k _ => by simp)
theorem sz_big : sz < 4611686018427387904 := by decide
theorem rngD1_sz (n : Nat) (h : n ≤ sz) : rngD1 [.int n] = some ((List.range n).map dN) := rngD1_nat n (Nat.lt_of_le_of_lt h sz_big)
theorem eRng1_of {m : EM (List D)} {ρ ρ1 : Rho} {n : Nat} (h : m ρ = .ret (.ok ([.int n], ρ1))) (hn : n ≤ sz) : eRng1 m ρ = .ret (.ok ((List.range n).map dN, ρ1)) := by
  rw [eRng1_s, h, bindE_k, rngD1_sz n hn, optE_sm]
/-! ### items -/
theorem atI_nat {α : Type} (xs : List α) (k : Nat) : atI xs (k : Int) = xs[k]? := by
  unfold atI ixN
  by_cases h : k < xs.length
  · simp [h]
  · simp [h]
@[simp] theorem atI_0 {α : Type} (x : α) (xs : List α) : atI (x :: xs) 0 = some x := atI_nat (x :: xs) 0
@[simp] theorem atI_1 {α : Type} (x y : α) (xs : List α) : atI (x :: y :: xs) 1 = some y := atI_nat (x :: y :: xs) 1
@[simp] theorem atI_2 {α : Type} (x y z : α) (xs : List α) : atI (x :: y :: z :: xs) 2 = some z := atI_nat (x :: y :: z :: xs) 2
@[simp] theorem atI_3 {α : Type} (x y z u : α) (xs : List α) : atI (x :: y :: z :: u :: xs) 3 = some u := atI_nat (x :: y :: z :: u :: xs) 3
/-! ### == of simple data -/
/-- numbers, texts, None, lists and tuples of such, n deep -/
def sim : Nat → D → Bool
  | _, .non => true
  | _, .int _ => true
  | _, .str _ => true
  | n + 1, .node t xs => seqTag t && xs.all (sim n)
  | _, _ => false
theorem sim_okD : ∀ {n : Nat} {d : D}, sim n d = true → okD d = true := by
  intro n
  induction n with
  | zero => intro d h; cases d <;> simp_all [sim, okD]
  | succ n ih =>
    intro d h
    have key : ∀ xs : List D, xs.all (sim n) = true → okL xs = true := by
      intro xs
      induction xs with
      | nil => intro _; simp [okL]
      | cons x xs ihx =>
        intro hx
        simp only [List.all_cons, Bool.and_eq_true] at hx
        simp [okL, ih hx.1, ihx hx.2]
    cases d with
    | node t xs =>
      simp only [sim, Bool.and_eq_true] at h
      cases t <;> simp_all [seqTag, okD]
    | _ => simp_all [sim, okD]
theorem sim_okL {n : Nat} {xs : List D} (h : xs.all (sim n) = true) : okL xs = true := by
  induction xs with
  | nil => simp [okL]
  | cons x xs ih =>
    simp only [List.all_cons, Bool.and_eq_true] at h
    simp [okL, sim_okD h.1, ih h.2]
theorem sim_mono : ∀ {n : Nat} {d : D}, sim n d = true → ∀ m, n ≤ m → sim m d = true := by
  intro n
  induction n with
  | zero => intro d h m _; cases d <;> simp_all [sim]
  | succ n ih =>
    intro d h m hm
    cases d with
    | node t xs =>
      obtain ⟨m, rfl⟩ : ∃ k, m = k + 1 := ⟨m - 1, by omega⟩
      simp only [sim, Bool.and_eq_true, List.all_eq_true] at h ⊢
      exact ⟨h.1, fun x hx => ih (h.2 x hx) m (by omega)⟩
    | _ => simp_all [sim]
open Classical in
theorem leafEq_sim {n : Nat} {d e : D} (hd : sim n d = true) (he : sim n e = true) (hl : ∀ t xs, d ≠ .node t xs) (hl' : ∀ t xs, e ≠ .node t xs) : leafEq d e = some (decide (d = e)) := by
  cases d <;> cases e <;> simp_all [sim, leafEq] <;> (rw [Bool.eq_iff_iff]; simp)
open Classical in
theorem allO_zip {P : D → D → Option Bool} : ∀ {xs ys : List D}, xs.length = ys.length → (∀ x ∈ xs, ∀ y ∈ ys, P x y = some (decide (x = y))) → allO (List.zipWith P xs ys) = some (decide (xs = ys))
  | [], [], _, _ => by simp [allO]
  | x :: xs, y :: ys, hl, h => by
    have e := allO_zip (P := P) (xs := xs) (ys := ys) (by simpa using hl) fun a ha b hb => h a (List.mem_cons_of_mem _ ha) b (List.mem_cons_of_mem _ hb)
    simp [allO, h x List.mem_cons_self y List.mem_cons_self, e]
open Classical in
theorem allO_zip' {P : D → D → Option Bool} : ∀ {xs ys : List D}, (∀ x ∈ xs, ∀ y ∈ ys, P x y = some (decide (x = y))) → (allO (List.zipWith P xs ys)).map (· && xs.length == ys.length) = some (decide (xs = ys))
  | [], [], _ => by simp [allO]
  | [], y :: ys, _ => by simp [allO]
  | x :: xs, [], _ => by simp [allO]
  | x :: xs, y :: ys, h => by
    have e := allO_zip' (P := P) (xs := xs) (ys := ys) fun a ha b hb => h a (List.mem_cons_of_mem _ ha) b (List.mem_cons_of_mem _ hb)
    simp only [List.zipWith_cons_cons, allO, h x List.mem_cons_self y List.mem_cons_self]
    cases e1 : allO (List.zipWith P xs ys) with
    | none => rw [e1] at e; simp at e
    | some b =>
      rw [e1] at e
      simp only [Option.map_some, Option.some.injEq] at e ⊢
      simp only [List.length_cons, List.cons.injEq]
      rw [Bool.and_assoc]
      have : ((b && (xs.length + 1 == ys.length + 1)) = (b && xs.length == ys.length)) := by
        congr 1; simp [Nat.add_right_cancel_iff]
      rw [this, e]
      simp [Bool.decide_and]
open Classical in
theorem eqN_sim {dk : Bool} : ∀ {n : Nat} {d e : D}, sim n d = true → sim n e = true → eqN dk n d e = some (decide (d = e)) := by
  intro n
  induction n with
  | zero =>
    intro d e hd he
    refine leafEq_sim hd he ?_ ?_ <;> (rintro t xs rfl; simp [sim] at *)
  | succ n ih =>
    intro d e hd he
    cases d with
    | node t xs =>
      cases e with
      | node u ys =>
        simp only [sim, Bool.and_eq_true, List.all_eq_true] at hd he
        have hp : ∀ x ∈ xs, ∀ y ∈ ys, eqN dk n x y = some (decide (x = y)) := fun x hx y hy => ih (hd.2 x hx) (he.2 y hy)
        cases t <;> cases u <;> simp [seqTag] at hd he <;> simp only [eqN]
        · by_cases hl : xs.length = ys.length
          · rw [if_pos hl, allO_zip hl hp]; simp
          · rw [if_neg hl]
            have : xs ≠ ys := fun z => hl (by rw [z])
            simp [this]
        · simp
        · simp
        · rw [allO_zip' hp]; simp
      | _ => (simp only [sim, Bool.and_eq_true] at hd; first | (simp [eqN, hd.1, isLeaf]; done) | (simp [sim] at he))
    | _ =>
      cases e with
      | node u ys => (simp only [sim, Bool.and_eq_true] at he; first | (simp [eqN, he.1, isLeaf]; done) | (simp [sim] at hd))
      | _ => exact leafEq_sim hd he (by intro t xs h; cases h) (by intro t xs h; cases h)
open Classical in
theorem eqD_sim {d e : D} (hd : sim 60 d = true) (he : sim 60 e = true) : eqD d e = some (decide (d = e)) := by
  simp only [eqD, sim_okD hd, sim_okD he, Bool.and_self, if_true]
  exact eqN_sim hd he
open Classical in
theorem eqO_sim {d e : D} (hd : sim 60 d = true) (he : sim 60 e = true) : eqO d e = some (.bl (decide (d = e))) := by simp [eqO, eqD_sim hd he]
open Classical in
theorem neO_sim {d e : D} (hd : sim 60 d = true) (he : sim 60 e = true) : neO d e = some (.bl (!decide (d = e))) := by
  simp only [neO, eqF, sim_okD hd, sim_okD he, Bool.and_self, if_true]
  rw [eqN_sim hd he]; rfl
open Classical in
theorem anyO_mem {x : D} : ∀ {ys : List D} {P : D → Option Bool}, (∀ y ∈ ys, P y = some (decide (y = x))) → anyO (ys.map P) = some (decide (x ∈ ys))
  | [], _, _ => by simp [anyO]
  | y :: ys, P, h => by
    have e := anyO_mem (x := x) (ys := ys) (P := P) fun a ha => h a (List.mem_cons_of_mem _ ha)
    simp only [List.map_cons, anyO, h y List.mem_cons_self, e]
    simp [eq_comm]
open Classical in
theorem inB_sim {x : D} {ys : List D} (t : Tag) (ht : seqTag t = true) (hx : sim 60 x = true) (hy : ys.all (sim 60) = true) : inB x (.node t ys) = some (decide (x ∈ ys)) := by
  have h : ∀ y ∈ ys, eqN false 60 y x = some (decide (y = x)) := fun y hm => eqN_sim (List.all_eq_true.mp hy y hm) hx
  cases t <;> simp [seqTag] at ht <;> simp only [inB, sim_okD hx, sim_okL hy, Bool.and_self, if_true] <;> exact anyO_mem h
open Classical in
theorem inO_sim {x : D} {ys : List D} (t : Tag) (ht : seqTag t = true) (hx : sim 60 x = true) (hy : ys.all (sim 60) = true) : inO x (.node t ys) = some (.bl (decide (x ∈ ys))) := by simp [inO, inB_sim t ht hx hy]
open Classical in
theorem notInO_sim {x : D} {ys : List D} (t : Tag) (ht : seqTag t = true) (hx : sim 60 x = true) (hy : ys.all (sim 60) = true) : notInO x (.node t ys) = some (.bl (!decide (x ∈ ys))) := by simp [notInO, inB_sim t ht hx hy]
end DL

/-! S1: small looks at values. -/
namespace DL
open PySem PySem.Spec PyProof.Rows L2 PySem.W
/-! ### truth values in lists -/
theorem blsD_map {α : Type} (p : α → Bool) : ∀ l : List α, blsD (l.map fun a => D.bl (p a)) = some (l.map p)
  | [] => rfl
  | a :: l => by simp [blsD, blsD_map p l]
theorem allB_map {α : Type} (p : α → Bool) (l : List α) : allB (.node .lst (l.map fun a => D.bl (p a))) = some (.bl (l.all p)) := by
  simp only [allB, lstB, blsD_map, Option.bind_some]
  simp [List.all_map]
theorem anyB_map {α : Type} (p : α → Bool) (l : List α) : anyB (.node .lst (l.map fun a => D.bl (p a))) = some (.bl (l.any p)) := by
  simp only [anyB, lstB, blsD_map, Option.bind_some]
  simp [List.any_map]
/-! ### checks -/
@[simp] theorem s_is_integer_int (i : Int) : m_is_integer [.int i] = .ret (.ok (.bl true)) := by simp [m_is_integer]
@[simp] theorem s_is_integer_bl (b : Bool) : m_is_integer [.bl b] = .ret (.ok (.bl false)) := by simp [m_is_integer]
@[simp] theorem s_is_integer_str (b : Str) : m_is_integer [.str b] = .ret (.ok (.bl false)) := by simp [m_is_integer]
@[simp] theorem s_is_integer_non : m_is_integer [.non] = .ret (.ok (.bl false)) := by simp [m_is_integer]
@[simp] theorem s_is_integer_lst (ds : List D) : m_is_integer [.node .lst ds] = .ret (.ok (.bl false)) := by simp [m_is_integer]
@[simp] theorem s_is_integer_tup (ds : List D) : m_is_integer [.node .tup ds] = .ret (.ok (.bl false)) := by simp [m_is_integer]
@[simp] theorem s_is_integer_dct (ks : List Key) (ds : List D) : m_is_integer [.node (.dct ks) ds] = .ret (.ok (.bl false)) := by simp [m_is_integer]
@[simp] theorem s_is_between (v lo hi : Int) : m_is_between [.int v, .int lo, .int hi] = .ret (.ok (.bl (decide (lo ≤ v) && decide (v ≤ hi)))) := by
  simp [m_is_between]
  split <;> simp_all <;> omega
theorem s_is_between_no {d : D} (h : m_is_integer [d] = .ret (.ok (.bl false))) (lo hi : D) : m_is_between [d, lo, hi] = .ret (.ok (.bl false)) := by
  simp [m_is_between, h]
@[simp] theorem s_is_between_bl (b : Bool) (lo hi : D) : m_is_between [.bl b, lo, hi] = .ret (.ok (.bl false)) := s_is_between_no (by simp) _ _
@[simp] theorem s_is_between_str (b : Str) (lo hi : D) : m_is_between [.str b, lo, hi] = .ret (.ok (.bl false)) := s_is_between_no (by simp) _ _
@[simp] theorem s_is_between_non (lo hi : D) : m_is_between [.non, lo, hi] = .ret (.ok (.bl false)) := s_is_between_no (by simp) _ _
@[simp] theorem s_is_between_lst (ds : List D) (lo hi : D) : m_is_between [.node .lst ds, lo, hi] = .ret (.ok (.bl false)) := s_is_between_no (by simp) _ _
@[simp] theorem s_is_between_tup (ds : List D) (lo hi : D) : m_is_between [.node .tup ds, lo, hi] = .ret (.ok (.bl false)) := s_is_between_no (by simp) _ _
@[simp] theorem s_is_between_dct (ks : List Key) (ds : List D) (lo hi : D) : m_is_between [.node (.dct ks) ds, lo, hi] = .ret (.ok (.bl false)) := s_is_between_no (by simp) _ _
@[simp] theorem s_is_row_lst (ds : List D) : m_is_row [.node .lst ds] = .ret (.ok (.bl true)) := by simp [m_is_row]
@[simp] theorem s_is_row_tup (ds : List D) : m_is_row [.node .tup ds] = .ret (.ok (.bl true)) := by simp [m_is_row]
@[simp] theorem s_is_row_int (i : Int) : m_is_row [.int i] = .ret (.ok (.bl false)) := by simp [m_is_row]
@[simp] theorem s_is_row_bl (i : Bool) : m_is_row [.bl i] = .ret (.ok (.bl false)) := by simp [m_is_row]
@[simp] theorem s_is_row_str (i : Str) : m_is_row [.str i] = .ret (.ok (.bl false)) := by simp [m_is_row]
@[simp] theorem s_is_row_non : m_is_row [.non] = .ret (.ok (.bl false)) := by simp [m_is_row]
@[simp] theorem s_is_row_dct (ks : List Key) (ds : List D) : m_is_row [.node (.dct ks) ds] = .ret (.ok (.bl false)) := by simp [m_is_row]
@[simp] theorem s_is_row_of_lst (ds : List D) (lo hi : Int) : m_is_row_of [.node .lst ds, .int lo, .int hi] = .ret (.ok (.bl (decide (lo ≤ ds.length) && decide ((ds.length : Int) ≤ hi)))) := by
  simp [m_is_row_of]; split <;> simp_all <;> omega
@[simp] theorem s_is_row_of_tup (ds : List D) (lo hi : Int) : m_is_row_of [.node .tup ds, .int lo, .int hi] = .ret (.ok (.bl (decide (lo ≤ ds.length) && decide ((ds.length : Int) ≤ hi)))) := by
  simp [m_is_row_of]; split <;> simp_all <;> omega
theorem s_is_row_of_no {d : D} (h : m_is_row [d] = .ret (.ok (.bl false))) (lo hi : D) : m_is_row_of [d, lo, hi] = .ret (.ok (.bl false)) := by simp [m_is_row_of, h]
@[simp] theorem s_is_row_of_int (i : Int) (lo hi : D) : m_is_row_of [.int i, lo, hi] = .ret (.ok (.bl false)) := s_is_row_of_no (by simp) _ _
@[simp] theorem s_is_row_of_bl (i : Bool) (lo hi : D) : m_is_row_of [.bl i, lo, hi] = .ret (.ok (.bl false)) := s_is_row_of_no (by simp) _ _
@[simp] theorem s_is_row_of_str (i : Str) (lo hi : D) : m_is_row_of [.str i, lo, hi] = .ret (.ok (.bl false)) := s_is_row_of_no (by simp) _ _
@[simp] theorem s_is_row_of_non (lo hi : D) : m_is_row_of [.non, lo, hi] = .ret (.ok (.bl false)) := s_is_row_of_no (by simp) _ _
@[simp] theorem s_is_row_of_dct (ks : List Key) (ds : List D) (lo hi : D) : m_is_row_of [.node (.dct ks) ds, lo, hi] = .ret (.ok (.bl false)) := s_is_row_of_no (by simp) _ _
/-! ### names -/
def isLetter (c : Nat) : Bool := decide (c ∈ z_abcdefghijklmnopqrstuvwxyz.cps.toList)
def nameOk (s : Str) : Bool := decide (1 ≤ s.length) && decide (s.length ≤ 8) && s.cps.toList.all isLetter
theorem s_is_name (s : Str) (h : nameOk s = true) : m_is_name [.str s] = .ret (.ok (.bl true)) := by
  simp only [nameOk, Bool.and_eq_true, decide_eq_true_eq] at h
  obtain ⟨⟨h1, h2⟩, h3⟩ := h
  have hs : s.length ≤ sz := by rw [sz_val]; omega
  have hl : s.cps.toList.length ≤ sz := hs
  have lc : eLc (eIt (eV 0)) [1] (gSet 1) eYes p_is_name_1 [Slot.val (.str s), Slot.none] = .ret (.ok ((.lst, s.cps.toList.map fun c => D.bl (isLetter c)), [Slot.val (.str s), Slot.none])) :=
    eLc_map1 (ρ1 := [Slot.val (.str s), Slot.none]) (fun c => D.str ⟨#[c]⟩) _ (by simp) (by simp [itemsD]) hl fun c _ => by
      simp [p_is_name_1, wipeR, inO, inB, oneSign, isLetter]
  have e1 : lenO (.str s) = some (.int s.length) := by simp [lenO, hs]
  have h1' : (1 : Int) ≤ s.length := by omega
  have h2' : (s.length : Int) ≤ 8 := by omega
  simp [m_is_name, e1, h1', h2', lc, allB_map, h3]
end DL

/-! S2: kinds. -/
namespace DL
open PySem PySem.Spec PyProof.Rows L2 PySem.W
/-! ### data -/
abbrev Ans := Nat × Nat
def dA (p : Ans) : D := .node .tup [dN p.1, dN p.2]
@[simp] theorem dA_def (r s : Nat) : dA (r, s) = .node .tup [.int r, .int s] := rfl
theorem dN_inj {a b : Nat} (h : dN a = dN b) : a = b := by
  injection h with h; omega
theorem dA_inj {p q : Ans} (h : dA p = dA q) : p = q := by
  obtain ⟨a, b⟩ := p; obtain ⟨c, d⟩ := q
  simp only [dA, D.node.injEq, List.cons.injEq, D.int.injEq, and_true, true_and] at h
  ext <;> simp <;> omega
theorem sim_dN (n k : Nat) : sim k (dN n) = true := by cases k <;> rfl
theorem sim_dA (p : Ans) (k : Nat) : sim (k + 1) (dA p) = true := by
  simp [sim, dA, seqTag, sim_dN]
theorem sim_mapA (l : List Ans) (k : Nat) : (l.map dA).all (sim (k + 1)) = true := by
  simp [sim_dA]
theorem mem_mapA {p : Ans} {l : List Ans} : dA p ∈ l.map dA ↔ p ∈ l := by
  simp only [List.mem_map]
  exact ⟨fun ⟨q, h, e⟩ => dA_inj e ▸ h, fun h => ⟨p, h, rfl⟩⟩
open Classical in
theorem inO_A (p : Ans) (l : List Ans) (t : Tag) (ht : seqTag t = true) : inO (dA p) (.node t (l.map dA)) = some (.bl (decide (p ∈ l))) := by
  rw [inO_sim t ht (sim_dA p 59) (sim_mapA l 59)]
  congr 2
  rw [decide_eq_decide]; exact mem_mapA
/-! ### answers -/
def ansOk (R S : Nat) (l : List Ans) : Prop := l.length ≤ 8 ∧ l.Nodup ∧ ∀ p ∈ l, p.1 < R ∧ p.2 < S
theorem are_answers_loop (v : Slot) (R S : Nat) : ∀ (l done : List Ans) (s4 : Slot), ansOk R S (done ++ l) →
    ∃ s4', forGo (gSet 4) p_are_answers_1 (l.map dA) [v, .val (dN R), .val (dN S), .own .lst (done.map dA), s4] = .ret (.nx [v, .val (dN R), .val (dN S), .own .lst ((done ++ l).map dA), s4'])
  | [], done, s4, _ => ⟨s4, by simp [forGo_nil]⟩
  | (a, b) :: l, done, s4, h => by
    have h' : ansOk R S ((done ++ [(a, b)]) ++ l) := by simpa using h
    obtain ⟨s4', ih⟩ := are_answers_loop v R S l (done ++ [(a, b)]) (.val (dA (a, b))) h'
    refine ⟨s4', ?_⟩
    obtain ⟨h1, h2, h3⟩ := h
    obtain ⟨h4, h5⟩ := h3 (a, b) (by simp)
    have h6 : (a, b) ∉ done := by
      rw [List.nodup_append] at h2
      exact fun z => h2.2.2 _ z _ List.mem_cons_self rfl
    have h7 : done.length < sz := by
      simp at h1; rw [sz_val]; omega
    have e1 := inO_A (a, b) done .lst rfl
    rw [List.map_cons, forGo_set]
    generalize forGo (gSet 4) p_are_answers_1 (l.map dA) = K at ih ⊢
    simp only [dA_def] at e1 ih ⊢ h4 h5
    have h8 : ¬ ((R : Int) - 1 < a) := by omega
    have h9 : ¬ ((S : Int) - 1 < b) := by omega
    simp [p_are_answers_1, e1, h6, h7, h8, h9]
    simpa using ih
theorem seq_cases {P : Tag → Prop} (h1 : P .lst) (h2 : P .tup) : ∀ t, seqTag t = true → P t
  | .lst, _ => h1
  | .tup, _ => h2
  | .dct _, h => by cases h
  | .dctT _, h => by cases h
  | .obj _, h => by cases h
theorem s_are_answers {R S : Nat} {l : List Ans} (h : ansOk R S l) : ∀ t, seqTag t = true → m_are_answers [.node t (l.map dA), dN R, dN S] = .ret (.ok (.bl true)) := by
  have hl : (l.length : Int) ≤ 8 := by have := h.1; omega
  refine seq_cases ?_ ?_
  · obtain ⟨s4', e⟩ := are_answers_loop (.val (.node .lst (l.map dA))) R S l [] .none (by simpa using h)
    simp only [List.map_nil] at e
    simp [m_are_answers, hl, e]
  · obtain ⟨s4', e⟩ := are_answers_loop (.val (.node .tup (l.map dA))) R S l [] .none (by simpa using h)
    simp only [List.map_nil] at e
    simp [m_are_answers, hl, e]
/-! ### methods -/
structure Meth where
  a : Nat
  r : Nat
  rows : List (List (List Ans))
def methOk (S : Nat) (m : Meth) : Prop := 1 ≤ m.a ∧ m.a ≤ 4 ∧ 1 ≤ m.r ∧ m.r ≤ 4 ∧ m.rows.length = S ∧ ∀ line ∈ m.rows, line.length = m.a ∧ ∀ row ∈ line, ansOk m.r S row
def dRow (t : Tag) (row : List Ans) : D := .node t (row.map dA)
def dLine (t1 t : Tag) (line : List (List Ans)) : D := .node t1 (line.map (dRow t))
def dRows (t2 t1 t : Tag) (rows : List (List (List Ans))) : D := .node t2 (rows.map (dLine t1 t))
def dMeth (t2 t1 t : Tag) (m : Meth) : D := .node .tup [dN m.a, dN m.r, dRows t2 t1 t m.rows]
theorem is_row_of_seq {ds : List D} {n : Nat} (h : ds.length = n) : ∀ t, seqTag t = true → m_is_row_of [.node t ds, dN n, dN n] = .ret (.ok (.bl true)) :=
  seq_cases (by simp [h]) (by simp [h])
theorem items_seq {ds : List D} : ∀ t, seqTag t = true → itemsD (.node t ds) = some ds := seq_cases rfl rfl
theorem s_is_method {S : Nat} {m : Meth} (h : methOk S m) (t2 t1 t : Tag) (h2 : seqTag t2 = true) (h1 : seqTag t1 = true) (ht : seqTag t = true) : m_is_method [dMeth t2 t1 t m, dN S] = .ret (.ok (.bl true)) := by
  obtain ⟨a1, a2, r1, r2, hl, hr⟩ := h
  have loop := forGo_pass (g := gSet 5) (body := p_is_method_2) (fun ρ => ∃ s5 s6, ρ = [.val (dMeth t2 t1 t m), .val (dN S), .val (dN m.a), .val (dN m.r), .val (dRows t2 t1 t m.rows), s5, s6])
    (m.rows.map (dLine t1 t)) [.val (dMeth t2 t1 t m), .val (dN S), .val (dN m.a), .val (dN m.r), .val (dRows t2 t1 t m.rows), .none, .none] ⟨_, _, rfl⟩ (by
      intro x hx ρ ⟨s5, s6, e⟩
      obtain ⟨line, hm, rfl⟩ := List.mem_map.mp hx
      obtain ⟨g1, g2⟩ := hr line hm
      subst e
      have lc : eLc (eIt (eV 5)) [6] (gSet 6) eYes p_is_method_1 [.val (dMeth t2 t1 t m), .val (dN S), .val (dN m.a), .val (dN m.r), .val (dRows t2 t1 t m.rows), .val (dLine t1 t line), s6] = .ret (.ok ((.lst, line.map fun _ => D.bl true), [.val (dMeth t2 t1 t m), .val (dN S), .val (dN m.a), .val (dN m.r), .val (dRows t2 t1 t m.rows), .val (dLine t1 t line), .none])) := by
        refine eLc_map1 (ρ1 := [.val (dMeth t2 t1 t m), .val (dN S), .val (dN m.a), .val (dN m.r), .val (dRows t2 t1 t m.rows), .val (dLine t1 t line), s6]) (dRow t) _ (by simp) (by simp [dLine, items_seq t1 h1]) (by rw [sz_val]; omega) fun row hrow => ?_
        have e := s_are_answers (g2 row hrow) t ht
        simp [p_is_method_1, wipeR, dRow, e]
      refine ⟨_, [.val (dMeth t2 t1 t m), .val (dN S), .val (dN m.a), .val (dN m.r), .val (dRows t2 t1 t m.rows), .val (dLine t1 t line), .none], rfl, ?_, _, _, rfl⟩
      have e := is_row_of_seq (ds := line.map (dRow t)) (n := m.a) (by simpa using g1) t1 h1
      have e2 : dLine t1 t line = .node t1 (line.map (dRow t)) := rfl
      rw [← e2] at e
      have e3 := allB_map (fun _ => true) line
      simp [p_is_method_2, e, lc, e3])
  obtain ⟨ρ', ⟨s5, s6, rfl⟩, e⟩ := loop
  have e5 := is_row_of_seq (ds := m.rows.map (dLine t1 t)) (n := S) (by simpa using hl) t2 h2
  have e6 : dRows t2 t1 t m.rows = .node t2 (m.rows.map (dLine t1 t)) := rfl
  rw [← e6] at e5
  have b1 : ¬ ((m.a : Int) ≤ 0) := by omega
  have b2 : ¬ (4 < (m.a : Int)) := by omega
  have b3 : ¬ ((m.r : Int) ≤ 0) := by omega
  have b4 : ¬ (4 < (m.r : Int)) := by omega
  have c1 : (1 : Int) ≤ m.a := by omega
  have c2 : (m.a : Int) ≤ 4 := by omega
  have c3 : (1 : Int) ≤ m.r := by omega
  have c4 : (m.r : Int) ≤ 4 := by omega
  have e7 : itemsD (dRows t2 t1 t m.rows) = some (m.rows.map (dLine t1 t)) := items_seq t2 h2
  have em : dMeth t2 t1 t m = .node .tup [dN m.a, dN m.r, dRows t2 t1 t m.rows] := rfl
  rw [em] at e ⊢
  simp [m_is_method, e5, e7, c1, c2, c3, c4, e]
end DL

/-! S3: sorted, dicts, Kind. -/
namespace DL
open PySem PySem.Spec PyProof.Rows L2 PySem.W
/-! ### the order of data -/
section
variable (O : KeyOrd)
theorem ord_trans {x y z : O.α} (h1 : (!O.blt y x) = true) (h2 : (!O.blt z y) = true) : (!O.blt z x) = true := by
  cases e : O.blt z x with
  | false => rfl
  | true =>
    rcases O.negTrans _ y _ e with h | h
    · rw [h] at h2; cases h2
    · rw [h] at h1; cases h1
theorem ord_total (x y : O.α) : ((!O.blt y x) || (!O.blt x y)) = true := by
  cases e : O.blt y x with
  | false => rfl
  | true =>
    cases e2 : O.blt x y with
    | false => rfl
    | true =>
      have h1 := O.trans _ _ _ e e2
      rw [O.irrefl] at h1
      cases h1
theorem ord_eq {x y : O.α} (h1 : (!O.blt y x) = true) (h2 : (!O.blt x y) = true) : x = y := by
  refine O.total _ _ ?_ ?_
  · cases e : O.blt x y with
    | false => rfl
    | true => rw [e] at h2; cases h2
  · cases e : O.blt y x with
    | false => rfl
    | true => rw [e] at h1; cases h1
end
theorem leD_trans (a b c : D) (h1 : leD a b = true) (h2 : leD b c = true) : leD a c = true := ord_trans (listOrd itemOrd) (x := keyToks (encD a)) (y := keyToks (encD b)) (z := keyToks (encD c)) h1 h2
theorem leD_total (a b : D) : (leD a b || leD b a) = true := ord_total (listOrd itemOrd) (keyToks (encD a)) (keyToks (encD b))
theorem leD_toks {a b : D} (h1 : leD a b = true) (h2 : leD b a = true) : keyToks (encD a) = keyToks (encD b) := ord_eq (listOrd itemOrd) (x := keyToks (encD a)) (y := keyToks (encD b)) h1 h2
section
variable {α : Type} {le : α → α → Bool}
theorem insS_perm (a : α) : ∀ l : List α, (insS le a l).Perm (a :: l)
  | [] => .refl _
  | b :: l => by
    simp only [insS]
    split
    · exact .refl _
    · exact ((insS_perm a l).cons b).trans (.swap a b l)
theorem isort_perm : ∀ l : List α, (isort le l).Perm l
  | [] => .refl _
  | a :: l => (insS_perm a (isort le l)).trans ((isort_perm l).cons a)
theorem insS_sorted (tr : ∀ a b c, le a b = true → le b c = true → le a c = true) (to : ∀ a b, (le a b || le b a) = true) (a : α) : ∀ {l : List α}, l.Pairwise (fun x y => le x y = true) → (insS le a l).Pairwise (fun x y => le x y = true)
  | [], _ => by simp [insS]
  | b :: l, h => by
    obtain ⟨h1, h2⟩ := List.pairwise_cons.mp h
    simp only [insS]
    split
    · rename_i hab
      exact List.pairwise_cons.mpr ⟨fun c hc => by
        rcases List.mem_cons.mp hc with rfl | hc
        · exact hab
        · exact tr _ _ _ hab (h1 c hc), h⟩
    · rename_i hab
      refine List.pairwise_cons.mpr ⟨fun c hc => ?_, insS_sorted tr to a h2⟩
      rcases List.mem_cons.mp ((insS_perm a l).mem_iff.mp hc) with rfl | hc
      · have := to c b
        simp only [hab, Bool.false_or] at this
        exact this
      · exact h1 c hc
theorem isort_sorted (tr : ∀ a b c, le a b = true → le b c = true → le a c = true) (to : ∀ a b, (le a b || le b a) = true) : ∀ l : List α, (isort le l).Pairwise (fun x y => le x y = true)
  | [] => .nil
  | a :: l => insS_sorted tr to a (isort_sorted tr to l)
theorem isort_id (l : List α) (h : l.Pairwise (fun x y => le x y = true)) : isort le l = l := by
  induction l with
  | nil => rfl
  | cons a l ih =>
    obtain ⟨h1, h2⟩ := List.pairwise_cons.mp h
    show insS le a (isort le l) = _
    rw [ih h2]
    cases l with
    | nil => rfl
    | cons b l => simp [insS, h1 b List.mem_cons_self]
theorem sorted_eq {l1 l2 : List α} (an : ∀ a ∈ l1, ∀ b ∈ l1, le a b = true → le b a = true → a = b) (h1 : l1.Pairwise (fun x y => le x y = true)) (h2 : l2.Pairwise (fun x y => le x y = true)) (p : l1.Perm l2) : l1 = l2 := by
  induction l1 generalizing l2 with
  | nil => exact p.nil_eq
  | cons a l1 ih =>
    cases l2 with
    | nil => exact absurd p.symm.nil_eq (by simp)
    | cons b l2 =>
      obtain ⟨a1, a2⟩ := List.pairwise_cons.mp h1
      obtain ⟨b1, b2⟩ := List.pairwise_cons.mp h2
      have hb : b ∈ a :: l1 := p.mem_iff.mpr List.mem_cons_self
      have ha : a ∈ b :: l2 := p.mem_iff.mp List.mem_cons_self
      have e : a = b := by
        rcases List.mem_cons.mp hb with e | hb'
        · exact e.symm
        · rcases List.mem_cons.mp ha with e | ha'
          · exact e
          · exact an a List.mem_cons_self b hb (a1 b hb') (b1 a ha')
      subst e
      rw [ih (fun x hx y hy => an x (List.mem_cons_of_mem _ hx) y (List.mem_cons_of_mem _ hy)) a2 b2 (List.Perm.cons_inv p)]
end
section
variable {α β : Type}
theorem insS_mapS {le : β → β → Bool} {f : α → β} {a : α} : ∀ l : List α, (insS (fun x y => le (f x) (f y)) a l).map f = insS le (f a) (l.map f)
  | [] => rfl
  | b :: l => by
    simp only [insS, List.map_cons]
    split
    · rfl
    · rw [List.map_cons, insS_mapS l]
theorem isort_mapS {le : β → β → Bool} {f : α → β} : ∀ l : List α, (isort (fun x y => le (f x) (f y)) l).map f = isort le (l.map f)
  | [] => rfl
  | a :: l => by
    show (insS _ a (isort _ l)).map f = insS le (f a) (isort le (l.map f))
    rw [insS_mapS, isort_mapS l]
end
/-- sorted by what stands for it -/
def sortBy {α : Type} (f : α → D) (l : List α) : List α := isort (fun x y => leD (f x) (f y)) l
theorem sortBy_perm {α : Type} (f : α → D) (l : List α) : (sortBy f l).Perm l := isort_perm l
theorem sortBy_sorted {α : Type} (f : α → D) (l : List α) : (sortBy f l).Pairwise fun x y => leD (f x) (f y) = true := isort_sorted (le := fun x y => leD (f x) (f y)) (fun a b c => leD_trans (f a) (f b) (f c)) (fun a b => leD_total (f a) (f b)) l
theorem sortBy_id {α : Type} (f : α → D) (l : List α) (h : l.Pairwise fun x y => leD (f x) (f y) = true) : sortBy f l = l := isort_id l h
theorem sortBy_idem {α : Type} (f : α → D) (l : List α) : sortBy f (sortBy f l) = sortBy f l := sortBy_id f _ (sortBy_sorted f l)
theorem sortBy_map {α : Type} (f : α → D) (l : List α) : (sortBy f l).map f = isort leD (l.map f) := isort_mapS l
theorem sortBy_length {α : Type} (f : α → D) (l : List α) : (sortBy f l).length = l.length := (sortBy_perm f l).length_eq
theorem sortBy_mem {α : Type} (f : α → D) (l : List α) (a : α) : a ∈ sortBy f l ↔ a ∈ l := (sortBy_perm f l).mem_iff
theorem sortBy_eq {α : Type} (f : α → D) {l1 l2 : List α} (an : ∀ a ∈ l1, ∀ b ∈ l1, keyToks (encD (f a)) = keyToks (encD (f b)) → a = b) (p : l1.Perm l2) : sortBy f l1 = sortBy f l2 := by
  refine sorted_eq (le := fun x y => leD (f x) (f y)) (fun a ha b hb h1 h2 => an a ((sortBy_mem f l1 a).mp ha) b ((sortBy_mem f l1 b).mp hb) (leD_toks h1 h2)) (sortBy_sorted f l1) (sortBy_sorted f l2) ?_
  exact ((sortBy_perm f l1).trans p).trans (sortBy_perm f l2).symm
theorem sortO_by {α : Type} (f : α → D) (l : List α) (h : sortOk (l.map f) = true) : sortO (.node .lst (l.map f)) = some (.lst, (sortBy f l).map f) := by
  simp only [sortO, h, if_true, sortBy_map]
theorem sortOk_of {α : Type} (f : α → D) (l : List α) (hl : l.length ≤ sz) (h1 : ∀ a ∈ l, okS (f a) = true) (h2 : ∀ a ∈ l, ∀ b ∈ l, alike (encD (f a)) (encD (f b)) = true) (h3 : (∀ a ∈ l, tupHd (encD (f a)) = true) ∨ (∀ a ∈ l, othHd (encD (f a)) = true)) (h4 : ∀ a ∈ l, PyData.depth (encD (f a)) ≤ 60) : sortOk (l.map f) = true := by
  have o : okSL (l.map f) = true := by
    clear h2 h3 h4 hl
    induction l with
    | nil => rfl
    | cons a l ih => simp [okSL, h1 a List.mem_cons_self, ih fun b hb => h1 b (List.mem_cons_of_mem _ hb)]
  simp only [sortOk, o, Bool.true_and, Bool.and_eq_true, Bool.or_eq_true, List.all_eq_true, List.mem_map, decide_eq_true_eq, List.length_map]
  refine ⟨⟨⟨?_, ?_⟩, hl⟩, ?_⟩
  · rintro _ ⟨_, ⟨a, ha, rfl⟩, rfl⟩ _ ⟨_, ⟨b, hb, rfl⟩, rfl⟩
    exact h2 a ha b hb
  · rcases h3 with h3 | h3
    · left; rintro _ ⟨_, ⟨a, ha, rfl⟩, rfl⟩; exact h3 a ha
    · right; rintro _ ⟨_, ⟨a, ha, rfl⟩, rfl⟩; exact h3 a ha
  · rintro _ ⟨_, ⟨a, ha, rfl⟩, rfl⟩
    exact h4 a ha
/-! ### sorted answers, names, numbers -/
theorem sortO_A (l : List Ans) (hl : l.length ≤ sz) : sortO (.node .lst (l.map dA)) = some (.lst, (sortBy dA l).map dA) :=
  sortO_by dA l (sortOk_of dA l hl (fun _ _ => by simp [dA, okS, okSL]) (fun _ _ _ _ => by simp [dA, encD, encL, alike, alikeAll]) (.inl fun _ _ => by simp [dA, encD, encL, tupHd]) (fun _ _ => by simp [dA, encD, encL, PyData.depth, PyData.depthAll]))
abbrev dS (s : Str) : D := .str s
theorem sortO_S (l : List Str) (hl : l.length ≤ sz) : sortO (.node .lst (l.map dS)) = some (.lst, (sortBy dS l).map dS) :=
  sortO_by dS l (sortOk_of dS l hl (fun _ _ => by simp [okS]) (fun _ _ _ _ => by simp [encD, alike]) (.inr fun _ _ => by simp [encD, othHd]) (fun _ _ => by simp [encD, PyData.depth]))
theorem sortO_N (l : List Nat) (hl : l.length ≤ sz) : sortO (.node .lst (l.map dN)) = some (.lst, (sortBy dN l).map dN) :=
  sortO_by dN l (sortOk_of dN l hl (fun _ _ => by simp [okS]) (fun _ _ _ _ => by simp [encD, alike]) (.inr fun _ _ => by simp [encD, othHd]) (fun _ _ => by simp [encD, PyData.depth]))
theorem toksA_inj {p q : Ans} (h : keyToks (encD (dA p)) = keyToks (encD (dA q))) : p = q := by
  obtain ⟨a, b⟩ := p; obtain ⟨c, d⟩ := q
  simp [dA, encD, encL, keyToks, keyToksAll] at h
  ext <;> simp <;> omega
theorem toksS_inj {p q : Str} (h : keyToks (encD (dS p)) = keyToks (encD (dS q))) : p = q := by
  simp [encD, keyToks] at h
  cases p; cases q; simp at h; rw [h]
theorem toksN_inj {p q : Nat} (h : keyToks (encD (dN p)) = keyToks (encD (dN q))) : p = q := by
  simp [encD, keyToks] at h
  omega
end DL

/-! S4: Kind. -/
namespace DL
open PySem PySem.Spec PyProof.Rows L2 PySem.W
/-! ### dicts by names -/
section
variable {α : Type}
def kS (s : Str) : Key := .inr s
/-- a dict from names -/
def dMap (f : α → D) (ms : List (Str × α)) : D := .node (.dct (ms.map fun p => kS p.1)) (ms.map fun p => f p.2)
theorem lk_map {f : α → D} {n : Str} : ∀ (ms : List (Str × α)), lk (ms.map fun p => kS p.1) (ms.map fun p => f p.2) (.inr n) = (ms.find? fun p => p.1 = n).map fun p => f p.2
  | [] => rfl
  | p :: ms => by
    simp only [List.map_cons, lk]
    by_cases h : p.1 = n
    · simp [h, kS]
    · have : ¬ kS p.1 = Sum.inr n := fun e => h (Sum.inr.inj e)
      rw [if_neg this, lk_map ms]
      simp [h]
/-- no name twice -/
def NoTwin (ms : List (Str × α)) : Prop := (ms.map (·.1)).Nodup
theorem find_mem {ms : List (Str × α)} (h : NoTwin ms) {p : Str × α} (hp : p ∈ ms) : (ms.find? fun q => q.1 = p.1) = some p := by
  induction ms with
  | nil => cases hp
  | cons q ms ih =>
    have h1 : q.1 ∉ ms.map (·.1) := (List.nodup_cons.mp h).1
    have h2 : NoTwin ms := (List.nodup_cons.mp h).2
    by_cases e : q.1 = p.1
    · have : q = p := by
        rcases List.mem_cons.mp hp with e2 | e2
        · exact e2.symm
        · exact absurd (List.mem_map.mpr ⟨p, e2, e.symm⟩) h1
      simp [this]
    · rcases List.mem_cons.mp hp with e2 | e2
      · exact absurd (by rw [e2]) e
      · simp [e, ih h2 e2]
theorem lk_mem {f : α → D} {ms : List (Str × α)} (h : NoTwin ms) {p : Str × α} (hp : p ∈ ms) : lk (ms.map fun p => kS p.1) (ms.map fun p => f p.2) (.inr p.1) = some (f p.2) := by
  rw [lk_map, find_mem h hp]; rfl
theorem lk_none {f : α → D} {ms : List (Str × α)} {n : Str} (h : n ∉ ms.map (·.1)) : lk (ms.map fun p => kS p.1) (ms.map fun p => f p.2) (.inr n) = none := by
  rw [lk_map, List.find?_eq_none.mpr]
  · rfl
  · intro p hp
    simp only [decide_eq_true_eq]
    exact fun e => h (List.mem_map.mpr ⟨p, hp, e⟩)
theorem putMap {f : α → D} {ms : List (Str × α)} {n : Str} {x : α} (h : n ∉ ms.map (·.1)) :
    putKs (ms.map fun p => kS p.1) (.inr n) = ((ms ++ [(n, x)]).map fun p => kS p.1) ∧ putDs (ms.map fun p => kS p.1) (ms.map fun p => f p.2) (.inr n) (f x) = ((ms ++ [(n, x)]).map fun p => f p.2) := by
  have h' : (Sum.inr n : Key) ∉ ms.map fun p => kS p.1 := by
    intro z
    obtain ⟨p, hp, e⟩ := List.mem_map.mp z
    exact h (List.mem_map.mpr ⟨p, hp, Sum.inr.inj e⟩)
  constructor
  · rw [putKs, if_neg h']; simp [kS]
  · rw [putDs, if_neg h']; simp
theorem keysMap (ms : List (Str × α)) : (ms.map fun p => kS p.1).map dK' = (ms.map (·.1)).map dS := by
  rw [List.map_map, List.map_map]; rfl
end
/-! ### names of a kind -/
def kindOk (S : Nat) (ms : List (Str × Meth)) : Prop := 1 ≤ ms.length ∧ ms.length ≤ 4 ∧ NoTwin ms ∧ ∀ p ∈ ms, nameOk p.1 = true ∧ methOk S p.2
theorem s_are_methods {S : Nat} {ms : List (Str × Meth)} (h : kindOk S ms) (t2 t1 t : Tag) (h2 : seqTag t2 = true) (h1 : seqTag t1 = true) (ht : seqTag t = true) : m_are_methods [dMap (dMeth t2 t1 t) ms, dN S] = .ret (.ok (.bl true)) := by
  obtain ⟨l1, l2, nt, hp⟩ := h
  have lc : eLc (eIt (eV 0)) [2] (gSet 2) eYes p_are_methods_1 [.val (dMap (dMeth t2 t1 t) ms), .val (dN S), .none] = .ret (.ok ((.lst, ms.map fun _ => D.bl true), [.val (dMap (dMeth t2 t1 t) ms), .val (dN S), .none])) := by
    refine eLc_map1 (ρ1 := [.val (dMap (dMeth t2 t1 t) ms), .val (dN S), .none]) (fun p : Str × Meth => dS p.1) _ (by simp) (by simp [dMap]; intros; rfl) (by rw [sz_val]; omega) fun p hm => ?_
    have e := s_is_method (hp p hm).2 t2 t1 t h2 h1 ht
    have e2 := lk_mem (f := dMeth t2 t1 t) nt hm
    have e3 := s_is_name p.1 (hp p hm).1
    simp [p_are_methods_1, wipeR, dMap, e, e2, e3]
  have e3 := allB_map (fun _ => true) ms
  have c1 : (1 : Int) ≤ ms.length := by omega
  have c2 : (ms.length : Int) ≤ 4 := by omega
  unfold dMap at lc ⊢
  simp [m_are_methods, c1, c2, lc, e3]
/-! ### ordered methods -/
def sortM (m : Meth) : Meth := { m with rows := m.rows.map fun line => line.map fun row => sortBy dA row }
theorem rowT (t : Tag) (ht : seqTag t = true) (row : List Ans) : tupleO (dRow t row) = some (dRow .tup row) := by
  revert t; exact seq_cases rfl rfl
theorem s_ordered_method {S : Nat} {m : Meth} (h : methOk S m) (t2 t1 t : Tag) (h2 : seqTag t2 = true) (h1 : seqTag t1 = true) (ht : seqTag t = true) (hS : S ≤ 100) : m_ordered_method [dMeth t2 t1 t m] = .ret (.ok (dMeth .tup .tup .tup (sortM m))) := by
  obtain ⟨a1, a2, r1, r2, hl, hr⟩ := h
  have key : ∀ (ls done : List (List (List Ans))) (s5 : Slot), (∀ line ∈ ls, line.length = m.a ∧ ∀ row ∈ line, ansOk m.r S row) → done.length + ls.length ≤ 100 →
      ∃ s5', forGo (gSet 5) p_ordered_method_3 (ls.map (dLine t1 t)) [.val (dMeth t2 t1 t m), .val (dN m.a), .val (dN m.r), .val (dRows t2 t1 t m.rows), .own .lst (done.map (dLine .tup .tup)), s5, .none, .none] =
        .ret (.nx [.val (dMeth t2 t1 t m), .val (dN m.a), .val (dN m.r), .val (dRows t2 t1 t m.rows), .own .lst ((done ++ ls.map fun line => line.map fun row => sortBy dA row).map (dLine .tup .tup)), s5', .none, .none]) := by
    intro ls
    induction ls with
    | nil => intro done s5 _ _; exact ⟨s5, by simp [forGo_nil]⟩
    | cons line ls ih =>
      intro done s5 hh hz
      obtain ⟨g1, g2⟩ := hh line List.mem_cons_self
      have g3 : line.length ≤ sz := by rw [sz_val]; omega
      have lc : eLc (eIt (eV 5)) [6] (gSet 6) eYes p_ordered_method_2 [.val (dMeth t2 t1 t m), .val (dN m.a), .val (dN m.r), .val (dRows t2 t1 t m.rows), .own .lst (done.map (dLine .tup .tup)), .val (dLine t1 t line), .none, .none] =
          .ret (.ok ((.lst, line.map fun row => dRow .tup (sortBy dA row)), [.val (dMeth t2 t1 t m), .val (dN m.a), .val (dN m.r), .val (dRows t2 t1 t m.rows), .own .lst (done.map (dLine .tup .tup)), .val (dLine t1 t line), .none, .none])) := by
        refine eLc_map1 (ρ1 := [.val (dMeth t2 t1 t m), .val (dN m.a), .val (dN m.r), .val (dRows t2 t1 t m.rows), .own .lst (done.map (dLine .tup .tup)), .val (dLine t1 t line), .none, .none]) (dRow t) _ (by simp) (by simp [dLine, items_seq t1 h1]) g3 fun row hrow => ?_
        have g4 := (g2 row hrow).1
        have lc2 : eLc (eIt (eV 6)) [7] (gSet 7) eYes p_ordered_method_1 [.val (dMeth t2 t1 t m), .val (dN m.a), .val (dN m.r), .val (dRows t2 t1 t m.rows), .own .lst (done.map (dLine .tup .tup)), .val (dLine t1 t line), .val (dRow t row), .none] =
            .ret (.ok ((.lst, row.map dA), [.val (dMeth t2 t1 t m), .val (dN m.a), .val (dN m.r), .val (dRows t2 t1 t m.rows), .own .lst (done.map (dLine .tup .tup)), .val (dLine t1 t line), .val (dRow t row), .none])) :=
          eLc_map1 (ρ1 := [.val (dMeth t2 t1 t m), .val (dN m.a), .val (dN m.r), .val (dRows t2 t1 t m.rows), .own .lst (done.map (dLine .tup .tup)), .val (dLine t1 t line), .val (dRow t row), .none]) dA _ (by simp) (by simp [dRow, items_seq t ht]) (by rw [sz_val]; omega) fun p _ => by
            simp [p_ordered_method_1, wipeR, dA]
        have e1 := sortO_A row (by rw [sz_val]; omega)
        simp [p_ordered_method_2, wipeR, lc2, e1]
        rfl
      have h7 : done.length < sz := by rw [sz_val]; simp at hz; omega
      obtain ⟨s5', ih⟩ := ih (done ++ [line.map fun row => sortBy dA row]) (.val (dLine t1 t line)) (fun l hl => hh l (List.mem_cons_of_mem _ hl)) (by simp at hz ⊢; omega)
      refine ⟨s5', ?_⟩
      rw [List.map_cons, forGo_set]
      generalize forGo (gSet 5) p_ordered_method_3 (ls.map (dLine t1 t)) = K at ih ⊢
      simp [p_ordered_method_3, lc, h7]
      have e2 : dLine .tup .tup (line.map fun row => sortBy dA row) = .node .tup (line.map fun row => dRow .tup (sortBy dA row)) := by simp [dLine]
      simpa [e2] using ih
  obtain ⟨s5', e⟩ := key m.rows [] .none hr (by simp; omega)
  have em : dMeth t2 t1 t m = .node .tup [dN m.a, dN m.r, dRows t2 t1 t m.rows] := rfl
  have e7 : itemsD (dRows t2 t1 t m.rows) = some (m.rows.map (dLine t1 t)) := items_seq t2 h2
  simp only [List.nil_append, List.map_nil] at e
  rw [em] at e ⊢
  simp [m_ordered_method, e7, e, sz_val]
  simp [dMeth, dRows, sortM]
end DL

/-! S5: Kind is made and asked. -/
namespace DL
open PySem PySem.Spec PyProof.Rows L2 PySem.W
@[simp] theorem cf33 : cf 33 = [z_states, z_start, z__methods] := rfl
@[simp] theorem pf33_0 (d : D) : putFld [z_states, z_start, z__methods] [] z_states d = some [d] := rfl
@[simp] theorem pf33_1 (a d : D) : putFld [z_states, z_start, z__methods] [a] z_start d = some [a, d] := rfl
@[simp] theorem pf33_2 (a b d : D) : putFld [z_states, z_start, z__methods] [a, b] z__methods d = some [a, b, d] := rfl
theorem sortK_names {α : Type} (ms : List (Str × α)) : (sortBy (fun p : Str × α => dS p.1) ms).map (·.1) = sortBy dS (ms.map (·.1)) := by
  unfold sortBy
  exact isort_mapS (le := fun x y => leD (dS x) (dS y)) (f := fun p : Str × α => p.1) ms
/-- the methods of a kind that was made of ms -/
def sortK (ms : List (Str × Meth)) : List (Str × Meth) := (sortBy (fun p : Str × Meth => dS p.1) ms).map fun p => (p.1, sortM p.2)
abbrev dMT (m : Meth) : D := dMeth .tup .tup .tup m
def dKind (S st : Nat) (ms : List (Str × Meth)) : D := .node (.obj 33) [dN S, dN st, dMap dMT ms]
theorem dc_kind {S st : Nat} {ms : List (Str × Meth)} (h : kindOk S ms) (hS : S ≤ 8) (t2 t1 t : Tag) (h2 : seqTag t2 = true) (h1 : seqTag t1 = true) (ht : seqTag t = true) (x : Slot) (fs : List D) :
    ∀ (ps done : List (Str × Meth)) (s4 : Slot), (∀ p ∈ ps, p ∈ ms) → NoTwin (done ++ ps) → (done ++ ps).length ≤ 4 →
      ∃ s4', dcGo [4] (gSet 4) eYes p_Kind___init_1 p_Kind___init_2 (ps.map fun p => dS p.1) [.own (.obj 33) fs, .val (dN S), .val (dN st), .val (dMap (dMeth t2 t1 t) ms), s4] ((done.map fun p => (p.1, sortM p.2)).map fun p => kS p.1) ((done.map fun p => (p.1, sortM p.2)).map fun p => dMT p.2)
        = .ret (.ok ((((done ++ ps).map fun p => (p.1, sortM p.2)).map fun p => kS p.1, ((done ++ ps).map fun p => (p.1, sortM p.2)).map fun p => dMT p.2), [.own (.obj 33) fs, .val (dN S), .val (dN st), .val (dMap (dMeth t2 t1 t) ms), s4']))
  | [], done, s4, _, _, _ => ⟨s4, by simp [dcGo]⟩
  | p :: ps, done, s4, hm, nt, hl => by
    obtain ⟨s4', ih⟩ := dc_kind (st := st) h hS t2 t1 t h2 h1 ht x fs ps (done ++ [p]) (.val (dS p.1)) (fun q hq => hm q (List.mem_cons_of_mem _ hq)) (by simpa using nt) (by simpa using hl)
    refine ⟨s4', ?_⟩
    have hp := hm p List.mem_cons_self
    have e1 := lk_mem (f := dMeth t2 t1 t) h.2.2.1 hp
    have e2 := s_ordered_method (h.2.2.2 p hp).2 t2 t1 t h2 h1 ht (by omega)
    have nn : p.1 ∉ (done.map fun p => (p.1, sortM p.2)).map (·.1) := by
      rw [List.map_map]
      unfold NoTwin at nt
      rw [List.map_append, List.map_cons, List.nodup_append] at nt
      exact fun z => nt.2.2 _ z _ List.mem_cons_self rfl
    obtain ⟨q1, q2⟩ := putMap (f := dMT) (x := sortM p.2) nn
    have hz : ((done.map fun p => (p.1, sortM p.2)).map fun p => kS p.1).length < sz := by
      rw [sz_val]; simp at hl ⊢; omega
    rw [List.map_cons]
    unfold dcGo
    generalize hg : dcGo [4] (gSet 4) eYes p_Kind___init_1 p_Kind___init_2 (ps.map fun p => dS p.1) = K at ih ⊢
    have e3 : p_Kind___init_1 [.own (.obj 33) fs, .val (dN S), .val (dN st), .val (dMap (dMeth t2 t1 t) ms), .val (dS p.1)] = .ret (.ok (dS p.1, [.own (.obj 33) fs, .val (dN S), .val (dN st), .val (dMap (dMeth t2 t1 t) ms), .val (dS p.1)])) := by simp [p_Kind___init_1]
    have e4 : p_Kind___init_2 [.own (.obj 33) fs, .val (dN S), .val (dN st), .val (dMap (dMeth t2 t1 t) ms), .val (dS p.1)] = .ret (.ok (dMT (sortM p.2), [.own (.obj 33) fs, .val (dN S), .val (dN st), .val (dMap (dMeth t2 t1 t) ms), .val (dS p.1)])) := by
      simp [p_Kind___init_2, dMap, e1, e2]
    simp only [wipeR, gSet_s, List.set_cons_succ, List.set_cons_zero, eYes, retE_def, bindN_ok, if_true, e3, e4, dKey, if_pos hz, q1, q2]
    simpa using ih
theorem s_Kind_init {S st : Nat} {ms : List (Str × Meth)} (h : kindOk S ms) (hS1 : 1 ≤ S) (hS : S ≤ 8) (hst : st < S) (t2 t1 t : Tag) (h2 : seqTag t2 = true) (h1 : seqTag t1 = true) (ht : seqTag t = true) :
    m_Kind___init [dN S, dN st, dMap (dMeth t2 t1 t) ms] = .ret (.ok [dN S, dN st, dMap dMT (sortK ms)]) := by
  have c1 : (1 : Int) ≤ S := by omega
  have c2 : (S : Int) ≤ 8 := by omega
  have c3 : (st : Int) ≤ (S : Int) - 1 := by omega
  have e1 := s_are_methods h t2 t1 t h2 h1 ht
  have hl := h.2.1
  have e2 := sortO_S (ms.map (·.1)) (by rw [sz_val]; simp; omega)
  have pm := sortBy_perm (fun p : Str × Meth => dS p.1) ms
  obtain ⟨s4', e3⟩ := dc_kind (st := st) h hS t2 t1 t h2 h1 ht .none [dN S, dN st] (sortBy (fun p : Str × Meth => dS p.1) ms) [] .none (fun p hp => pm.mem_iff.mp hp)
    (by rw [List.nil_append]; exact (pm.map (fun p => p.1)).nodup_iff.mpr (show (ms.map (·.1)).Nodup from h.2.2.1)) (by simpa [pm.length_eq] using hl)
  have e4 : (sortBy dS (ms.map (·.1))).map dS = (sortBy (fun p : Str × Meth => dS p.1) ms).map fun p => dS p.1 := by rw [← sortK_names, List.map_map]; rfl
  rw [e4] at e2
  simp only [List.nil_append, List.map_nil] at e3
  have ek : listO (dMap (dMeth t2 t1 t) ms) = some (.lst, (ms.map (·.1)).map dS) := by
    simp only [dMap, listO_dct, keysMap]
  have hdc : eDc (eIt (eFz (DL.f1 sortO (eFz (DL.f1 listO (eQ (qV 3))))))) [4] (gSet 4) eYes p_Kind___init_1 p_Kind___init_2 [.own (.obj 33) [dN S, dN st], .val (dN S), .val (dN st), .val (dMap (dMeth t2 t1 t) ms), .none] =
      .ret (.ok ((.dct ((sortK ms).map fun p => kS p.1), (sortK ms).map fun p => dMT p.2), [.own (.obj 33) [dN S, dN st], .val (dN S), .val (dN st), .val (dMap (dMeth t2 t1 t) ms), .none])) := by
    simp [eDc, ek, e2, e3, wipeR, sortK, -List.map_map]
  simp [m_Kind___init, c1, c2, c3, e1, hdc, outO, own0, whole]
  rfl
end DL

/-! S6: what a kind answers. -/
namespace DL
open PySem PySem.Spec PyProof.Rows L2 PySem.W
@[simp] theorem okf_states33 : okf_states 33 = true := rfl
@[simp] theorem okf_start33 : okf_start 33 = true := rfl
@[simp] theorem okf__methods33 : okf__methods 33 = true := rfl
@[simp] theorem lkF33_0 (a b c : D) : lkF [z_states, z_start, z__methods] [a, b, c] z_states = some a := rfl
@[simp] theorem lkF33_1 (a b c : D) : lkF [z_states, z_start, z__methods] [a, b, c] z_start = some b := rfl
@[simp] theorem lkF33_2 (a b c : D) : lkF [z_states, z_start, z__methods] [a, b, c] z__methods = some c := rfl
@[simp] theorem disp_contains33 : disp___contains__ 33 = some m_Kind___contains := rfl
@[simp] theorem disp_method33 : disp__method 33 = some m_Kind__method := rfl
@[simp] theorem disp_answers33 : disp_answers 33 = some m_Kind_answers := rfl
@[simp] theorem disp_results33 : disp_results 33 = some m_Kind_results := rfl
@[simp] theorem disp_arguments33 : disp_arguments 33 = some m_Kind_arguments := rfl
open Classical in
theorem inO_map {α : Type} (f : α → D) (ms : List (Str × α)) (n : Str) : inO (.str n) (dMap f ms) = some (.bl (decide (n ∈ ms.map (·.1)))) := by
  simp only [dMap, inO, inB, dKey, Option.map_some, lk_map]
  congr 2
  cases e : ms.find? fun p => p.1 = n with
  | none =>
    have : n ∉ ms.map (·.1) := fun z => by
      obtain ⟨p, hp, rfl⟩ := List.mem_map.mp z
      have := List.find?_eq_none.mp e p hp
      simp at this
    simp [this]
  | some p =>
    have h1 := List.mem_of_find?_eq_some e
    have h2 := List.find?_some e
    simp only [decide_eq_true_eq] at h2
    have : n ∈ ms.map (·.1) := List.mem_map.mpr ⟨p, h1, h2⟩
    simp [this]
section
variable {S st : Nat} {ms : List (Str × Meth)}
open Classical in
theorem s_contains (n : Str) : m_Kind___contains [dKind S st ms, .str n] = .ret (.ok (.bl (decide (n ∈ ms.map (·.1))))) := by
  have e := inO_map dMT ms n
  simp only [dKind]
  generalize dMap dMT ms = M at *
  simp [m_Kind___contains, e]
theorem s_contains_no {d : D} {k : Nat} (h : tyD d = some k) (hk : isi_str k = some false) : m_Kind___contains [dKind S st ms, d] = .ret (.ok (.bl false)) := by
  simp only [dKind]
  simp [m_Kind___contains, h, hk]
theorem s__method (nt : NoTwin ms) {p : Str × Meth} (hp : p ∈ ms) : m_Kind__method [dKind S st ms, .str p.1] = .ret (.ok (dMT p.2)) := by
  have e := s_contains (S := S) (st := st) (ms := ms) p.1
  have e2 := lk_mem (f := dMT) nt hp
  have e3 : p.1 ∈ ms.map (·.1) := List.mem_map.mpr ⟨p, hp, rfl⟩
  simp only [dKind] at e ⊢
  simp only [e3, decide_true] at e
  have e4 : ixO (dMap dMT ms) (.str p.1) = some (dMT p.2) := e2
  generalize dMap dMT ms = M at *
  simp [m_Kind__method, e, e4]
theorem s__method_no {n : Str} (h : n ∉ ms.map (·.1)) : m_Kind__method [dKind S st ms, .str n] = .ret (.error ⟨4, [.str n]⟩) := by
  have e := s_contains (S := S) (st := st) (ms := ms) n
  simp only [dKind] at e ⊢
  generalize dMap dMT ms = M at *
  simp only [h, decide_false] at e
  simp [m_Kind__method, e]
theorem s_arguments (nt : NoTwin ms) {p : Str × Meth} (hp : p ∈ ms) : m_Kind_arguments [dKind S st ms, .str p.1] = .ret (.ok (dN p.2.a)) := by
  have e := s__method (S := S) (st := st) nt hp
  simp only [dKind, dMeth] at e ⊢
  generalize dMap dMT ms = M at *
  simp [m_Kind_arguments, e]
theorem s_results (nt : NoTwin ms) {p : Str × Meth} (hp : p ∈ ms) : m_Kind_results [dKind S st ms, .str p.1] = .ret (.ok (dN p.2.r)) := by
  have e := s__method (S := S) (st := st) nt hp
  simp only [dKind, dMeth] at e ⊢
  generalize dMap dMT ms = M at *
  simp [m_Kind_results, e]
theorem s_answers (nt : NoTwin ms) {p : Str × Meth} (hp : p ∈ ms) {s a : Nat} {line : List (List Ans)} {row : List Ans} (hs : s < S) (ha : a < p.2.a) (h1 : p.2.rows[s]? = some line) (h2 : line[a]? = some row) :
    m_Kind_answers [dKind S st ms, dN s, .str p.1, dN a] = .ret (.ok (dRow .tup row)) := by
  have e := s__method (S := S) (st := st) nt hp
  have e1 : ixO (dRows .tup .tup .tup p.2.rows) (dN s) = some (dLine .tup .tup line) := by
    simp [dRows, atI_nat, h1]
  have e2 : ixO (dLine .tup .tup line) (dN a) = some (dRow .tup row) := by
    simp [dLine, atI_nat, h2]
  have c1 : ((s : Int) ≤ (S : Int) - 1) := by omega
  have c2 : ((a : Int) ≤ (p.2.a : Int) - 1) := by omega
  simp only [dKind, dMeth] at e ⊢
  generalize dMap dMT ms = M at *
  simp [m_Kind_answers, c1, c2, e, e1, e2]
end
end DL

/-! S7: rows of calls. -/
namespace DL
open PySem PySem.Spec PyProof.Rows L2 PySem.W
theorem mem_mapN {n : Nat} {l : List Nat} : dN n ∈ l.map dN ↔ n ∈ l := by
  simp only [List.mem_map]
  exact ⟨fun ⟨q, h, e⟩ => dN_inj e ▸ h, fun h => ⟨n, h, rfl⟩⟩
theorem sim_mapN (l : List Nat) (k : Nat) : (l.map dN).all (sim k) = true := by simp [sim_dN]
open Classical in
theorem notInO_N (n : Nat) (l : List Nat) (t : Tag) (ht : seqTag t = true) : notInO (dN n) (.node t (l.map dN)) = some (.bl (!decide (n ∈ l))) := by
  rw [notInO_sim t ht (sim_dN n 60) (sim_mapN l 60)]
  congr 3
  rw [decide_eq_decide]; exact mem_mapN
open Classical in
theorem eqO_N (n m : Nat) : eqO (dN n) (dN m) = some (.bl (decide (n = m))) := by
  rw [eqO_sim (sim_dN n 60) (sim_dN m 60)]
  congr 2
  rw [decide_eq_decide]; exact ⟨dN_inj, fun h => by rw [h]⟩
/-- the states that come behind a call -/
def step1 (r : Nat) (found : List Nat) (p : Ans) : List Nat := if p.1 = r ∧ p.2 ∉ found then found ++ [p.2] else found
def rowAt (m : Meth) (s a : Nat) : List Ans := (m.rows.getD s []).getD a []
def behindF (m : Meth) (a r : Nat) (states : List Nat) : List Nat := states.foldl (fun found s => (rowAt m s a).foldl (step1 r) found) []
def behind (m : Meth) (a r : Nat) (states : List Nat) : List Nat := sortBy dN (behindF m a r states)
theorem rowAt_get {S : Nat} {m : Meth} (h : methOk S m) {s a : Nat} (hs : s < S) (ha : a < m.a) : ∃ line, m.rows[s]? = some line ∧ line[a]? = some (rowAt m s a) ∧ line ∈ m.rows ∧ rowAt m s a ∈ line := by
  obtain ⟨_, _, _, _, hl, hr⟩ := h
  have h1 : s < m.rows.length := by omega
  refine ⟨m.rows[s], by simp [h1], ?_, List.getElem_mem h1, ?_⟩
  · have := (hr _ (List.getElem_mem h1)).1
    have h2 : a < (m.rows[s]).length := by omega
    simp [rowAt, h1, h2]
  · have := (hr _ (List.getElem_mem h1)).1
    have h2 : a < (m.rows[s]).length := by omega
    have e : rowAt m s a = (m.rows[s])[a] := by simp [rowAt, h1, h2]
    rw [e]; exact List.getElem_mem h2
theorem rowAt_ok {S : Nat} {m : Meth} (h : methOk S m) {s a : Nat} (hs : s < S) (ha : a < m.a) : ansOk m.r S (rowAt m s a) := by
  obtain ⟨line, _, _, h1, h2⟩ := rowAt_get h hs ha
  exact (h.2.2.2.2.2 line h1).2 _ h2
def inS (S : Nat) (l : List Nat) : Prop := l.Nodup ∧ ∀ s ∈ l, s < S
theorem nodup_lt : ∀ (S : Nat) (l : List Nat), l.Nodup → (∀ s ∈ l, s < S) → l.length ≤ S
  | 0, l, _, h => by
    cases l with
    | nil => simp
    | cons a l => exact absurd (h a List.mem_cons_self) (by omega)
  | S + 1, l, n, h => by
    have h1 := nodup_lt S (l.erase S) (n.erase S) fun s hs => by
      have := (List.Nodup.mem_erase_iff n).mp hs
      have := h s this.2
      omega
    have h2 : l.length ≤ (l.erase S).length + 1 := by
      rw [List.length_erase]; split <;> omega
    omega
theorem inS_len {S : Nat} {l : List Nat} (h : inS S l) : l.length ≤ S := nodup_lt S l h.1 h.2
theorem step1_in {S r : Nat} {found : List Nat} {p : Ans} (h : inS S found) (hp : p.2 < S) : inS S (step1 r found p) := by
  unfold step1
  split
  · rename_i hc
    refine ⟨?_, fun s hs => ?_⟩
    · rw [List.nodup_append]
      exact ⟨h.1, by simp, fun a ha b hb => by
        simp at hb; subst hb; exact fun e => hc.2 (e ▸ ha)⟩
    · rcases List.mem_append.mp hs with z | z
      · exact h.2 s z
      · simp at z; omega
  · exact h
theorem row_in {S r : Nat} : ∀ {row : List Ans} {found : List Nat}, inS S found → (∀ p ∈ row, p.2 < S) → inS S (row.foldl (step1 r) found)
  | [], _, h, _ => h
  | p :: row, found, h, hr => row_in (row := row) (step1_in h (hr p List.mem_cons_self)) fun q hq => hr q (List.mem_cons_of_mem _ hq)
theorem behindF_in {S : Nat} {m : Meth} (h : methOk S m) {a r : Nat} (ha : a < m.a) {states : List Nat} (hs : ∀ s ∈ states, s < S) : inS S (behindF m a r states) := by
  have key : ∀ (states found : List Nat), (∀ s ∈ states, s < S) → inS S found → inS S (states.foldl (fun found s => (rowAt m s a).foldl (step1 r) found) found) := by
    intro states
    induction states with
    | nil => intro found _ h; exact h
    | cons s states ih =>
      intro found hs hf
      exact ih _ (fun q hq => hs q (List.mem_cons_of_mem _ hq)) (row_in hf fun p hp => ((rowAt_ok h (hs s List.mem_cons_self) ha).2.2 p hp).2)
  exact key states [] hs ⟨.nil, by simp⟩
theorem behind_in {S : Nat} {m : Meth} (h : methOk S m) {a r : Nat} (ha : a < m.a) {states : List Nat} (hs : ∀ s ∈ states, s < S) : inS S (behind m a r states) := by
  have p := sortBy_perm dN (behindF m a r states)
  have q := behindF_in h (r := r) ha hs
  exact ⟨p.nodup_iff.mpr q.1, fun s z => q.2 s (p.mem_iff.mp z)⟩
/-- a call that told its result -/
def dCallT (t : Tag) (n : Str) (a r : Nat) : D := .node t [.str n, dN a, dN r]
abbrev dCall (n : Str) (a r : Nat) : D := dCallT .tup n a r
def kI (n : Nat) : Key := .inl n
theorem putI {found : List Nat} {n : Nat} (h : n ∉ found) (ds : List D) (d : D) : putKs (found.map kI) (.inl (n : Int)) = (found ++ [n]).map kI := by
  have : (Sum.inl (n : Int) : Key) ∉ found.map kI := by
    intro z
    obtain ⟨k, hk, e⟩ := List.mem_map.mp z
    have : k = n := by
      have := Sum.inl.inj e
      omega
    exact h (this ▸ hk)
  rw [putKs, if_neg this]; simp [kI]
theorem putI' {found : List Nat} {n : Nat} (h : n ∈ found) : putKs (found.map kI) (.inl (n : Int)) = found.map kI := by
  have : (Sum.inl (n : Int) : Key) ∈ found.map kI := List.mem_map.mpr ⟨n, h, rfl⟩
  rw [putKs, if_pos this]
theorem keysI (l : List Nat) : (l.map kI).map dK' = l.map dN := by rw [List.map_map]; rfl
section
variable {S st : Nat} {ms : List (Str × Meth)}
theorem s_states_behind (nt : NoTwin ms) {p : Str × Meth} (hp : p ∈ ms) (hm : methOk S p.2) (hS : S ≤ 8) {a r : Nat} (ha : a < p.2.a) {t : Tag} (ht : t = .lst ∨ t = .tup) {states : List Nat} (hs : ∀ s ∈ states, s < S) :
    m_states_behind [dKind S st ms, .node .tup (states.map dN), dCallT t p.1 a r] = .ret (.ok (.node .tup ((behind p.2 a r states).map dN))) := by
  let I : List Nat → Rho → Prop := fun found ρ => inS S found ∧ ∃ ds s7 s8 s9, ρ = [.val (dKind S st ms), .val (.node .tup (states.map dN)), .val (dCallT t p.1 a r), .val (.str p.1), .val (dN a), .val (dN r), .own (.dct (found.map kI)) ds, s7, s8, s9]
  obtain ⟨ρ', ⟨hf, ds, s7, s8, s9, rfl⟩, e⟩ := forGo_foldT (g := gSet 7) (body := p_states_behind_2) dN I (fun found s => (rowAt p.2 s a).foldl (step1 r) found) states [] [.val (dKind S st ms), .val (.node .tup (states.map dN)), .val (dCallT t p.1 a r), .val (.str p.1), .val (dN a), .val (dN r), .own (.dct []) [], .none, .none, .none] ⟨⟨.nil, by simp⟩, _, _, _, _, rfl⟩ (by
    rintro s hsm found ρ ⟨hf, ds, s7, s8, s9, rfl⟩
    have hs' := hs s hsm
    obtain ⟨line, l1, l2, _, _⟩ := rowAt_get hm hs' ha
    have ea := s_answers (S := S) (st := st) nt hp hs' ha l1 l2
    have ro := rowAt_ok hm hs' ha
    let J : List Nat → Rho → Prop := fun found ρ => inS S found ∧ ∃ ds s8 s9, ρ = [.val (dKind S st ms), .val (.node .tup (states.map dN)), .val (dCallT t p.1 a r), .val (.str p.1), .val (dN a), .val (dN r), .own (.dct (found.map kI)) ds, .val (dN s), s8, s9]
    obtain ⟨ρ', ⟨hf', ds', s8', s9', rfl⟩, e'⟩ := forGo_foldT (g := gTupD 2 (gsCons (gSet 8) (gsCons (gSet 9) gsNil))) (body := p_states_behind_1) dA J (step1 r) (rowAt p.2 s a) found [.val (dKind S st ms), .val (.node .tup (states.map dN)), .val (dCallT t p.1 a r), .val (.str p.1), .val (dN a), .val (dN r), .own (.dct (found.map kI)) ds, .val (dN s), s8, s9] ⟨hf, _, _, _, rfl⟩ (by
      rintro ⟨b1, b2⟩ hb found ρ ⟨hf, ds, s8, s9, rfl⟩
      have hb2 := (ro.2.2 _ hb).2
      have hl := inS_len hf
      have hz : (found.map kI).length < sz := by rw [sz_val]; simp; omega
      refine ⟨[.val (dKind S st ms), .val (.node .tup (states.map dN)), .val (dCallT t p.1 a r), .val (.str p.1), .val (dN a), .val (dN r), .own (.dct (found.map kI)) ds, .val (dN s), .val (dN b1), .val (dN b2)], ?_⟩
      by_cases hr : b1 = r
      · refine ⟨[.val (dKind S st ms), .val (.node .tup (states.map dN)), .val (dCallT t p.1 a r), .val (.str p.1), .val (dN a), .val (dN r), .own (.dct (putKs (found.map kI) (.inl (b2 : Int)))) (putDs (found.map kI) ds (.inl (b2 : Int)) (.bl true)), .val (dN s), .val (dN b1), .val (dN b2)], by simp [dA], ?_, step1_in hf hb2, ?_⟩
        · have e1 := eqO_N b1 r
          simp only [hr, decide_true] at e1
          simp at hz
          simp [p_states_behind_1, hr, e1, hz]
        · unfold step1
          by_cases hn : b2 ∈ found
          · rw [if_neg (by simp [hn]), putI' hn]
            exact ⟨_, _, _, rfl⟩
          · rw [if_pos ⟨hr, hn⟩, putI hn ds (.bl true)]
            exact ⟨_, _, _, rfl⟩
      · refine ⟨[.val (dKind S st ms), .val (.node .tup (states.map dN)), .val (dCallT t p.1 a r), .val (.str p.1), .val (dN a), .val (dN r), .own (.dct (found.map kI)) ds, .val (dN s), .val (dN b1), .val (dN b2)], by simp [dA], ?_, step1_in hf hb2, ?_⟩
        · have e1 := eqO_N b1 r
          simp only [hr, decide_false] at e1
          simp [p_states_behind_1, e1]
        · unfold step1
          rw [if_neg (by simp [hr])]
          exact ⟨_, _, _, rfl⟩)
    refine ⟨_, [.val (dKind S st ms), .val (.node .tup (states.map dN)), .val (dCallT t p.1 a r), .val (.str p.1), .val (dN a), .val (dN r), .own (.dct (((rowAt p.2 s a).foldl (step1 r) found).map kI)) ds', .val (dN s), s8', s9'], rfl, ?_, hf', ds', _, s8', s9', rfl⟩
    simp only [dKind] at ea e' ⊢
    have e2 : itemsD (dRow .tup (rowAt p.2 s a)) = some ((rowAt p.2 s a).map dA) := rfl
    simp [p_states_behind_2, ea, e2]
    exact e')
  have e1 := sortO_N (behindF p.2 a r states) (by rw [sz_val]; have := inS_len hf; simp only [behindF]; omega)
  have e2 : listO (.node (.dct ((behindF p.2 a r states).map kI)) ds) = some (.lst, (behindF p.2 a r states).map dN) := by rw [listO_dct, keysI]
  simp only [dCallT] at e ⊢
  have e3 : behindF p.2 a r states = states.foldl (fun found s => (rowAt p.2 s a).foldl (step1 r) found) [] := rfl
  rw [← e3] at e
  rcases ht with rfl | rfl
  · simp [m_states_behind, e, e1, e2, sz_val, -List.map_map, -listO_dct]
    rfl
  · simp [m_states_behind, e, e1, e2, sz_val, -List.map_map, -listO_dct]
    rfl
end
end DL

/-! S8: the laws' own == and copies. -/
namespace DL
open PySem PySem.Spec PyProof.Rows L2 PySem.W
/-- plain data, n deep -/
def pln : Nat → D → Bool
  | _, .non => true
  | _, .bl _ => true
  | _, .int _ => true
  | _, .str _ => true
  | n + 1, .node t xs => seqTag t && xs.all (pln n) && decide (xs.length ≤ sz)
  | _, _ => false
theorem eLc_filt {α : Type} {it : EM (List D)} {vs : List Nat} {i : Nat} {tt : EM Bool} {te : EM D} {ρ ρ1 : Rho} {as : List α} (f : α → D) (p : α → Bool) (hv : i ∈ vs)
    (hi : it ρ = .ret (.ok (as.map f, ρ1))) (hl : as.length ≤ sz) (h : ∀ a ∈ as, tt ((wipeR ρ1 vs).set i (.val (f a))) = .ret (.ok (p a, (wipeR ρ1 vs).set i (.val (f a)))) ∧ te ((wipeR ρ1 vs).set i (.val (f a))) = .ret (.ok (f a, (wipeR ρ1 vs).set i (.val (f a))))) :
    eLc it vs (gSet i) tt te ρ = .ret (.ok ((.lst, (as.filter p).map f), wipeR ρ1 vs)) := by
  have key : ∀ (as : List α) (ρ : Rho), wipeR ρ vs = wipeR ρ1 vs → (∀ a ∈ as, tt ((wipeR ρ1 vs).set i (.val (f a))) = .ret (.ok (p a, (wipeR ρ1 vs).set i (.val (f a)))) ∧ te ((wipeR ρ1 vs).set i (.val (f a))) = .ret (.ok (f a, (wipeR ρ1 vs).set i (.val (f a))))) →
      ∃ ρ', wipeR ρ' vs = wipeR ρ1 vs ∧ lcGo vs (gSet i) tt te (as.map f) ρ = .ret (.ok ((as.filter p).map f, ρ')) := by
    intro as
    induction as with
    | nil => exact fun ρ h0 _ => ⟨ρ, h0, rfl⟩
    | cons a as ih =>
      intro ρ h0 h
      obtain ⟨e1, e2⟩ := h a List.mem_cons_self
      have hw : wipeR ((wipeR ρ1 vs).set i (.val (f a))) vs = wipeR ρ1 vs := by rw [wipeR_set hv, wipeR_idem]
      obtain ⟨ρ', q1, q2⟩ := ih _ hw fun b hb => h b (List.mem_cons_of_mem _ hb)
      refine ⟨ρ', q1, ?_⟩
      rw [List.map_cons, lcGo_cons, h0]
      simp only [gSet_s, e1, bindN_ok]
      cases hp : p a with
      | true => simp [e2, q2, hp]
      | false => simp [q2, hp]
  obtain ⟨ρ', q1, q2⟩ := key as ρ1 rfl h
  simp [eLc, hi, hl, q2, q1]
@[simp] theorem isO_non (x : D) : isO x .non = some (.bl (isNonD x)) := by cases x <;> rfl
@[simp] theorem isNonD_non : isNonD .non = true := rfl
@[simp] theorem isNonD_bl (b : Bool) : isNonD (.bl b) = false := rfl
@[simp] theorem isNonD_int (b : Int) : isNonD (.int b) = false := rfl
@[simp] theorem isNonD_str (b : Str) : isNonD (.str b) = false := rfl
@[simp] theorem isNonD_wld (k : Nat) : isNonD (.wld k) = false := rfl
@[simp] theorem isNonD_node (t : Tag) (b : List D) : isNonD (.node t b) = false := rfl
theorem eqO_int (i j : Int) : eqO (.int i) (.int j) = some (.bl (decide (i = j))) := by
  have : eqO (.int i) (.int j) = some (.bl (i == j)) := rfl
  rw [this]; congr 2
theorem eqO_bl (i j : Bool) : eqO (.bl i) (.bl j) = some (.bl (decide (i = j))) := by
  have : eqO (.bl i) (.bl j) = some (.bl (i == j)) := rfl
  rw [this]; congr 2
theorem eqO_str (i j : Str) : eqO (.str i) (.str j) = some (.bl (decide (i = j))) := by
  have : eqO (.str i) (.str j) = some (.bl (i == j)) := rfl
  rw [this]; congr 2
theorem neO_bl (i j : Bool) : neO (.bl i) (.bl j) = some (.bl (!decide (i = j))) := by
  have : neO (.bl i) (.bl j) = some (.bl (!(i == j))) := rfl
  rw [this]; congr 3
theorem neO_int (i j : Int) : neO (.int i) (.int j) = some (.bl (!decide (i = j))) := by
  have : neO (.int i) (.int j) = some (.bl (!(i == j))) := rfl
  rw [this]; congr 3
open Classical in
theorem filt_same {xs ys : List D} (h : xs.length = ys.length) : ((List.range ys.length).filter fun k => !decide (xs[k]? = ys[k]?)).length = 0 ↔ xs = ys := by
  rw [List.length_eq_zero_iff, List.filter_eq_nil_iff]
  constructor
  · intro z
    refine List.ext_getElem? fun k => ?_
    by_cases hk : k < ys.length
    · have := z k (List.mem_range.mpr hk)
      simpa using this
    · rw [List.getElem?_eq_none (by omega), List.getElem?_eq_none (by omega)]
  · rintro rfl k _
    simp
def rest_same (fuel : Nat) : SM := sSeq (sIf (eTst (eBin neO (e1 lenO (eQ (qV 0))) (e1 lenO (eQ (qV 1))))) (sRet (eC (.bl false))) sPass)
  (sRet (eBin eqO (e1 lenO (eFz (eLc (eRng1 (eCons (e1 lenO (eQ (qV 1))) eNil)) [2] (gSet 2) (p_law_same_1 (m_law_same fuel)) (p_law_same_2 (m_law_same fuel))))) (eQ (qC (.int 0)))))
theorem same_nn (f : Nat) : m_law_same (f + 1) [.non, .non] = .ret (.ok (.bl true)) := by rw [m_law_same, runD_s]; rfl
theorem same_n (f : Nat) (a : D) : m_law_same (f + 1) [a, .non] = .ret (.ok (.bl (isNonD a))) := by rw [m_law_same, runD_s]; cases a <;> rfl
section
variable (f : Nat) (b b' : Bool) (i i' : Int) (s s' : Str) (t : Tag) (xs ys : List D)
theorem same_bn : m_law_same (f + 1) [.non, .bl b] = .ret (.ok (.bl false)) := by rw [m_law_same, runD_s]; rfl
theorem same_bb : m_law_same (f + 1) [.bl b', .bl b] = .ret (.ok (.bl (b' == b))) := by rw [m_law_same, runD_s]; rfl
theorem same_bi : m_law_same (f + 1) [.int i, .bl b] = .ret (.ok (.bl false)) := by rw [m_law_same, runD_s]; rfl
theorem same_bs : m_law_same (f + 1) [.str s, .bl b] = .ret (.ok (.bl false)) := by rw [m_law_same, runD_s]; rfl
theorem same_bl : m_law_same (f + 1) [.node .lst xs, .bl b] = .ret (.ok (.bl false)) := by rw [m_law_same, runD_s]; rfl
theorem same_bt : m_law_same (f + 1) [.node .tup xs, .bl b] = .ret (.ok (.bl false)) := by rw [m_law_same, runD_s]; rfl
theorem same_in : m_law_same (f + 1) [.non, .int i] = .ret (.ok (.bl false)) := by rw [m_law_same, runD_s]; rfl
theorem same_ib : m_law_same (f + 1) [.bl b, .int i] = .ret (.ok (.bl false)) := by rw [m_law_same, runD_s]; rfl
theorem same_ii : m_law_same (f + 1) [.int i', .int i] = .ret (.ok (.bl (i' == i))) := by rw [m_law_same, runD_s]; rfl
theorem same_is : m_law_same (f + 1) [.str s, .int i] = .ret (.ok (.bl false)) := by rw [m_law_same, runD_s]; rfl
theorem same_il : m_law_same (f + 1) [.node .lst xs, .int i] = .ret (.ok (.bl false)) := by rw [m_law_same, runD_s]; rfl
theorem same_it : m_law_same (f + 1) [.node .tup xs, .int i] = .ret (.ok (.bl false)) := by rw [m_law_same, runD_s]; rfl
theorem same_sn : m_law_same (f + 1) [.non, .str s] = .ret (.ok (.bl false)) := by rw [m_law_same, runD_s]; rfl
theorem same_sb : m_law_same (f + 1) [.bl b, .str s] = .ret (.ok (.bl false)) := by rw [m_law_same, runD_s]; rfl
theorem same_si : m_law_same (f + 1) [.int i, .str s] = .ret (.ok (.bl false)) := by rw [m_law_same, runD_s]; rfl
theorem same_ss : m_law_same (f + 1) [.str s', .str s] = .ret (.ok (.bl (s' == s))) := by rw [m_law_same, runD_s]; rfl
theorem same_sl : m_law_same (f + 1) [.node .lst xs, .str s] = .ret (.ok (.bl false)) := by rw [m_law_same, runD_s]; rfl
theorem same_st : m_law_same (f + 1) [.node .tup xs, .str s] = .ret (.ok (.bl false)) := by rw [m_law_same, runD_s]; rfl
theorem same_ln : m_law_same (f + 1) [.non, .node .lst ys] = .ret (.ok (.bl false)) := by rw [m_law_same, runD_s]; rfl
theorem same_lb : m_law_same (f + 1) [.bl b, .node .lst ys] = .ret (.ok (.bl false)) := by rw [m_law_same, runD_s]; rfl
theorem same_li : m_law_same (f + 1) [.int i, .node .lst ys] = .ret (.ok (.bl false)) := by rw [m_law_same, runD_s]; rfl
theorem same_ls : m_law_same (f + 1) [.str s, .node .lst ys] = .ret (.ok (.bl false)) := by rw [m_law_same, runD_s]; rfl
theorem same_lt : m_law_same (f + 1) [.node .tup xs, .node .lst ys] = .ret (.ok (.bl false)) := by rw [m_law_same, runD_s]; rfl
theorem same_ll : m_law_same (f + 1) [.node .lst xs, .node .lst ys] = (rest_same f [.val (.node .lst xs), .val (.node .lst ys), .none]).bind outD := by rw [m_law_same, runD_s]; rfl
theorem same_tn : m_law_same (f + 1) [.non, .node .tup ys] = .ret (.ok (.bl false)) := by rw [m_law_same, runD_s]; rfl
theorem same_tb : m_law_same (f + 1) [.bl b, .node .tup ys] = .ret (.ok (.bl false)) := by rw [m_law_same, runD_s]; rfl
theorem same_ti : m_law_same (f + 1) [.int i, .node .tup ys] = .ret (.ok (.bl false)) := by rw [m_law_same, runD_s]; rfl
theorem same_ts : m_law_same (f + 1) [.str s, .node .tup ys] = .ret (.ok (.bl false)) := by rw [m_law_same, runD_s]; rfl
theorem same_tl : m_law_same (f + 1) [.node .lst xs, .node .tup ys] = .ret (.ok (.bl false)) := by rw [m_law_same, runD_s]; rfl
theorem same_tt : m_law_same (f + 1) [.node .tup xs, .node .tup ys] = (rest_same f [.val (.node .tup xs), .val (.node .tup ys), .none]).bind outD := by rw [m_law_same, runD_s]; rfl
end
theorem pln_node {n : Nat} {t : Tag} {xs : List D} (h : pln n (.node t xs) = true) : ∃ k, n = k + 1 ∧ seqTag t = true ∧ (∀ x ∈ xs, pln k x = true) ∧ xs.length ≤ sz := by
  cases n with
  | zero => simp [pln] at h
  | succ k =>
    simp only [pln, Bool.and_eq_true, List.all_eq_true, decide_eq_true_eq] at h
    exact ⟨k, rfl, h.1.1, h.1.2, h.2⟩
open Classical in
theorem same_rest {fuel : Nat} {xs ys : List D} (hy : ys.length ≤ sz) (ih : ∀ k (h1 : k < xs.length) (h2 : k < ys.length), m_law_same fuel [xs[k], ys[k]] = .ret (.ok (.bl (decide (xs[k] = ys[k]))))) (t : Tag) (ht : seqTag t = true) :
    (rest_same fuel [.val (.node t xs), .val (.node t ys), .none]).bind outD = .ret (.ok (.bl (decide (xs = ys)))) := by
  have l1 : lenO (.node t xs) = some (.int xs.length) := seq_cases (P := fun t => lenO (.node t xs) = some (.int xs.length)) rfl rfl t ht
  have l2 : lenO (.node t ys) = some (.int ys.length) := seq_cases (P := fun t => lenO (.node t ys) = some (.int ys.length)) rfl rfl t ht
  by_cases hl : xs.length = ys.length
  · have lc : eLc (eRng1 (eCons (e1 lenO (eQ (qV 1))) eNil)) [2] (gSet 2) (p_law_same_1 (m_law_same fuel)) (p_law_same_2 (m_law_same fuel)) [.val (.node t xs), .val (.node t ys), .none] =
        .ret (.ok ((.lst, ((List.range ys.length).filter fun k => !decide (xs[k]? = ys[k]?)).map dN), [.val (.node t xs), .val (.node t ys), .none])) := by
      refine eLc_filt (as := List.range ys.length) (ρ1 := [.val (.node t xs), .val (.node t ys), .none]) dN _ (by simp) ?_ (by rw [List.length_range]; exact hy) fun k hk => ?_
      · exact eRng1_of (by simp [l2]) hy
      · have hk' : k < ys.length := List.mem_range.mp hk
        have hk2 : k < xs.length := by omega
        have i1 : ixO (.node t xs) (dN k) = some xs[k] := seq_cases (P := fun u => ixO (.node u xs) (dN k) = some xs[k]) (by simp [atI_nat, hk2]) (by simp [atI_nat, hk2]) t ht
        have i2 : ixO (.node t ys) (dN k) = some ys[k] := seq_cases (P := fun u => ixO (.node u ys) (dN k) = some ys[k]) (by simp [atI_nat, hk']) (by simp [atI_nat, hk']) t ht
        have ih' := ih k hk2 hk'
        constructor
        · simp [p_law_same_1, wipeR, i1, i2, ih', hk', hk2]
        · simp [p_law_same_2, wipeR]
    have fs := filt_same hl
    have e0 : eqO (.int (((List.range ys.length).filter fun k => !decide (xs[k]? = ys[k]?)).length : Int)) (.int 0) = some (.bl (decide (xs = ys))) := by
      rw [eqO_int]
      congr 2
      rw [decide_eq_decide, ← fs]
      omega
    generalize ((List.range ys.length).filter fun k => !decide (xs[k]? = ys[k]?)) = F at *
    simp [rest_same, l1, l2, neO_int, hl, lc, e0]
  · have hne : ¬ ((xs.length : Int) = ys.length) := by omega
    have hne2 : xs ≠ ys := fun e => hl (by rw [e])
    simp [rest_same, l1, l2, neO_int, hne, hne2]
open Classical in
theorem s_same : ∀ (n fuel : Nat), n < fuel → ∀ (a d : D), pln n a = true → pln n d = true → m_law_same fuel [a, d] = .ret (.ok (.bl (decide (a = d))))
  | n, 0, hf, _, _, _, _ => by omega
  | n, fuel + 1, hf, a, d, ha, hd => by
    have bq : ∀ {α : Type} [DecidableEq α] (x y : α), (x == y) = decide (x = y) := fun x y => by rw [Bool.eq_iff_iff]; simp
    cases d with
    | wld k => cases n <;> simp [pln] at hd
    | non => rw [same_n]; cases a <;> simp
    | bl b =>
      cases a with
      | wld k => cases n <;> simp [pln] at ha
      | node t xs =>
        obtain ⟨_, _, h, _⟩ := pln_node ha
        cases t <;> simp [seqTag] at h
        · rw [same_bl]; simp
        · rw [same_bt]; simp
      | bl b' => rw [same_bb]; cases b <;> cases b' <;> simp
      | non => rw [same_bn]; simp
      | int i => rw [same_bi]; simp
      | str s => rw [same_bs]; simp
    | int j =>
      cases a with
      | wld k => cases n <;> simp [pln] at ha
      | node t xs =>
        obtain ⟨_, _, h, _⟩ := pln_node ha
        cases t <;> simp [seqTag] at h
        · rw [same_il]; simp
        · rw [same_it]; simp
      | bl b' => rw [same_ib]; simp
      | non => rw [same_in]; simp
      | int i => rw [same_ii, bq]; simp
      | str s => rw [same_is]; simp
    | str j =>
      cases a with
      | wld k => cases n <;> simp [pln] at ha
      | node t xs =>
        obtain ⟨_, _, h, _⟩ := pln_node ha
        cases t <;> simp [seqTag] at h
        · rw [same_sl]; simp
        · rw [same_st]; simp
      | bl b' => rw [same_sb]; simp
      | non => rw [same_sn]; simp
      | int i => rw [same_si]; simp
      | str s => rw [same_ss, bq]; simp
    | node t ys =>
      obtain ⟨n, rfl, hd1, hd2, hd3⟩ := pln_node hd
      cases t <;> simp [seqTag] at hd1
      · cases a with
        | wld k => simp [pln] at ha
        | node u xs =>
          obtain ⟨n', e, ha1, ha2, ha3⟩ := pln_node ha
          obtain rfl : n = n' := by omega
          cases u <;> simp [seqTag] at ha1
          · rw [same_ll, same_rest hd3 (fun k h1 h2 => s_same n fuel (by omega) xs[k] ys[k] (ha2 _ (List.getElem_mem h1)) (hd2 _ (List.getElem_mem h2))) .lst rfl]; simp
          · rw [same_lt]; simp
        | bl b' => rw [same_lb]; simp
        | non => rw [same_ln]; simp
        | int i => rw [same_li]; simp
        | str s => rw [same_ls]; simp
      · cases a with
        | wld k => simp [pln] at ha
        | node u xs =>
          obtain ⟨n', e, ha1, ha2, ha3⟩ := pln_node ha
          obtain rfl : n = n' := by omega
          cases u <;> simp [seqTag] at ha1
          · rw [same_tl]; simp
          · rw [same_tt, same_rest hd3 (fun k h1 h2 => s_same n fuel (by omega) xs[k] ys[k] (ha2 _ (List.getElem_mem h1)) (hd2 _ (List.getElem_mem h2))) .tup rfl]; simp
        | bl b' => rw [same_tb]; simp
        | non => rw [same_tn]; simp
        | int i => rw [same_ti]; simp
        | str s => rw [same_ts]; simp
end DL

/-! S9: drawn kinds. -/
namespace DL
open PySem PySem.Spec PyProof.Rows L2 PySem.W
theorem s_draw (n : Int) : m_law_draw [.wld 0, .int n] = if n < 1073741824 then .draw n fun r => .ret (.ok (.int r)) else .stuck := rfl
/-! ### names -/
theorem join_chars : ∀ cs : List Nat, (Txt.join zh_ (cs.map fun c => (⟨#[c]⟩ : Str))).cps.toList = cs := by
  intro cs
  rw [TL.join_eq]
  show TL.tl (Str.join zh_ _) = cs
  rw [TL.tl_join]
  induction cs with
  | nil => rfl
  | cons c cs ih =>
    cases cs with
    | nil => rfl
    | cons d cs =>
      simp only [List.map_cons] at ih ⊢
      show TL.tl ⟨#[c]⟩ ++ (TL.tl zh_ ++ TL.joinL (TL.tl zh_) _) = _
      rw [ih]; rfl
theorem strsD_map (ys : List Str) : strsD (ys.map dS) = some ys := by
  induction ys with
  | nil => rfl
  | cons y ys ih => simp [strsD, ih]
def letterAt (r : Nat) : Nat := 97 + r
theorem letters_eq : z_abcdefghijklmnopqrstuvwxyz.cps.toList = (List.range 26).map letterAt := by decide
theorem isLetter_at {r : Nat} (h : r < 26) : isLetter (letterAt r) = true := by
  unfold isLetter; rw [letters_eq]; simp only [decide_eq_true_eq]
  exact List.mem_map.mpr ⟨r, List.mem_range.mpr h, rfl⟩
theorem ix_letter {r : Int} (h0 : 0 ≤ r) (h : r < 26) : ixO (.str z_abcdefghijklmnopqrstuvwxyz) (.int r) = some (.str ⟨#[letterAt r.toNat]⟩) := by
  obtain ⟨n, rfl⟩ := Int.eq_ofNat_of_zero_le h0
  have e : ixO (.str z_abcdefghijklmnopqrstuvwxyz) (.int n) = if z_abcdefghijklmnopqrstuvwxyz.length ≤ sz then (atI z_abcdefghijklmnopqrstuvwxyz.cps.toList n).map fun c => .str ⟨#[c]⟩ else none := rfl
  have hl : z_abcdefghijklmnopqrstuvwxyz.length ≤ sz := by decide
  rw [e, if_pos hl, letters_eq, atI_nat]
  have hn : n < 26 := by omega
  simp [hn]
theorem nameOk_chars {cs : List Nat} (h1 : 1 ≤ cs.length) (h2 : cs.length ≤ 8) (h3 : ∀ c ∈ cs, isLetter c = true) : nameOk (Txt.join zh_ (cs.map fun c => (⟨#[c]⟩ : Str))) = true := by
  have e := join_chars cs
  have el : (Txt.join zh_ (cs.map fun c => (⟨#[c]⟩ : Str))).length = cs.length := by
    have := congrArg List.length e
    show (Txt.join zh_ (cs.map fun c => (⟨#[c]⟩ : Str))).cps.size = _
    simpa using this
  simp only [nameOk, el, e, Bool.and_eq_true, decide_eq_true_eq, List.all_eq_true]
  exact ⟨⟨h1, h2⟩, h3⟩
/-- the state in _law_names -/
def rNames (n : Nat) (done : List Str) (s4 s5 s6 s7 s8 : Slot) : Rho := [.val (.wld 0), .val (dN n), .val (.str z_abcdefghijklmnopqrstuvwxyz), .own .lst (done.map dS), s4, s5, s6, s7, s8]
/-- a draw, where it is called -/
theorem call_draw {i : Nat} {e : EM D} {ρ : Rho} {n : Int} (h0 : ρ[i]? = some (.val (.wld 0))) (he : e ρ = .ret (.ok (.int n, ρ))) (hn : n < 1073741824) :
    eCall m_law_draw 2 0 (fun ds _ => ds) (eCl1 (eCons (eV i) (eCons e eNil))) ρ = .draw n fun r => .ret (.ok (.int r, ρ)) := by
  have h1 : eCons (eV i) (eCons e eNil) ρ = .ret (.ok ([.wld 0, .int n], ρ)) := by
    rw [eCons_s, eV_s, h0, goV_val, bindE_k, eCons_s, he, bindE_k, eNil_s, bindE_k, bindE_k]
  rw [eCall_s, eCl1_s, h1, bindE_k, bindE_k, if_pos ⟨rfl, rfl⟩, s_draw, if_pos hn]
  simp only [callM_draw, callM_ok]
/-- .. by a written bound or a natural number -/
theorem draw_WP {i : Nat} {e : EM D} {ρ : Rho} {n : Nat} (h0 : ρ[i]? = some (.val (.wld 0))) (he : e ρ = .ret (.ok (.int n, ρ))) (hn : n ≤ 100) (hp : 0 < n) :
    WP (eCall m_law_draw 2 0 (fun ds _ => ds) (eCl1 (eCons (eV i) (eCons e eNil))) ρ) fun r => ∃ d ρ', r = .ok (d, ρ') ∧ ρ' = ρ ∧ ∃ k : Nat, d = dN k ∧ k < n := by
  rw [call_draw h0 he (by omega)]
  refine WP_draw (by omega) fun r a b => ⟨⟨_, _, rfl, rfl, ?_⟩⟩
  obtain ⟨k, rfl⟩ := Int.eq_ofNat_of_zero_le a
  exact ⟨k, rfl, by omega⟩
theorem lc_word {n k : Nat} {done : List Str} {s4 s6 s7 s8 : Slot} (hk : k ≤ 8) :
    WP (eLc (eRng1 (eCons (eV 5) eNil)) [7] (gSet 7) eYes p_law_names_1 (rNames n done s4 (.val (dN k)) s6 s7 s8)) fun r => ∃ p ρ', r = .ok (p, ρ') ∧ ρ' = rNames n done s4 (.val (dN k)) s6 .none s8 ∧ ∃ cs : List Nat, p = (.lst, cs.map fun c => dS ⟨#[c]⟩) ∧ cs.length = k ∧ ∀ c ∈ cs, isLetter c = true := by
  refine (eLc_WP (ρ1 := rNames n done s4 (.val (dN k)) s6 s7 s8) (xs := (List.range k).map dN) (fun ds xs => ∃ cs : List Nat, ds = cs.map (fun c => dS ⟨#[c]⟩) ∧ (∀ c ∈ cs, isLetter c = true) ∧ cs.length + xs.length = k)
    (eRng1_of (by simp [rNames]) (by rw [sz_val]; omega)) (by rw [List.length_map, List.length_range, sz_val]; omega) ⟨[], rfl, by simp, by simp⟩ ?_).mono ?_
  · rintro x xs _ ⟨cs, rfl, h1, h2⟩
    refine ⟨_, rfl, ?_⟩
    have e1 : p_law_names_1 = eBin ixO (eV 2) (eCall m_law_draw 2 0 (fun ds _ => ds) (eCl1 (eCons (eV 0) (eCons (eC (.int 26)) eNil)))) := rfl
    rw [e1, eBin_s, eV_s]
    show WP (bindE (goV 2 _ (some (.val (.str z_abcdefghijklmnopqrstuvwxyz)))) _) _
    rw [goV_val, bindE_k]
    refine WP_bindE (fun d ρ' => ρ' = _ ∧ ∃ k : Nat, d = dN k ∧ k < 26) (draw_WP (n := 26) rfl rfl (by omega) (by omega)) ?_
    rintro _ _ ⟨rfl, m, rfl, hm⟩
    have := ix_letter (r := m) (by omega) (by omega)
    rw [this, optE_sm]
    refine ⟨⟨_, _, rfl, rfl, cs ++ [letterAt m], by simp, ?_, by simp at h2 ⊢; omega⟩⟩
    intro c hc
    rcases List.mem_append.mp hc with z | z
    · exact h1 c z
    · simp at z; rw [z]; exact isLetter_at hm
  · rintro _ ⟨p, ρ', rfl, rfl, ys, rfl, cs, rfl, h1, h2⟩
    exact ⟨_, _, rfl, rfl, cs, rfl, by simpa using h2, h1⟩
theorem word_WP {n k : Nat} {done : List Str} {s4 s6 s7 s8 : Slot} (hk1 : 1 ≤ k) (hk : k ≤ 8) :
    WP ((eJoin (eC (.str zh_)) (eFz (eLc (eRng1 (eCons (eV 5) eNil)) [7] (gSet 7) eYes p_law_names_1))) (rNames n done s4 (.val (dN k)) s6 s7 s8)) fun r => ∃ d ρ', r = .ok (d, ρ') ∧ ρ' = rNames n done s4 (.val (dN k)) s6 .none s8 ∧ ∃ w, d = .str w ∧ nameOk w = true := by
  rw [eJoin_s, eC_s, bindE_k, goJ_str, eFz_s]
  refine WP_bindE (fun d ρ' => ρ' = rNames n done s4 (.val (dN k)) s6 .none s8 ∧ ∃ cs : List Nat, d = .node .lst (cs.map fun c => dS ⟨#[c]⟩) ∧ cs.length = k ∧ ∀ c ∈ cs, isLetter c = true) ?_ ?_
  · refine WP_bindE (fun p ρ' => ρ' = rNames n done s4 (.val (dN k)) s6 .none s8 ∧ ∃ cs : List Nat, p = (.lst, cs.map fun c => dS ⟨#[c]⟩) ∧ cs.length = k ∧ ∀ c ∈ cs, isLetter c = true) (lc_word hk) ?_
    rintro _ _ ⟨rfl, cs, rfl, h1, h2⟩
    rw [whole_lst, if_pos rfl]
    exact ⟨⟨_, _, rfl, rfl, cs, rfl, h1, h2⟩⟩
  · rintro _ _ ⟨rfl, cs, rfl, h1, h2⟩
    have e0 : (cs.map fun c => dS ⟨#[c]⟩) = (cs.map fun c => (⟨#[c]⟩ : Str)).map dS := by rw [List.map_map]; rfl
    have ej : joinO zh_ (.node .lst (cs.map fun c => dS ⟨#[c]⟩)) = some (.str (Txt.join zh_ (cs.map fun c => (⟨#[c]⟩ : Str)))) := by
      show joinL zh_ _ = _
      unfold joinL
      rw [e0, strsD_map, Option.bind_some, if_pos]
      have : (cs.map fun c => (⟨#[c]⟩ : Str)).map (·.length) = cs.map fun _ => 1 := by rw [List.map_map]; rfl
      rw [this]
      have l0 : zh_.length = 0 := rfl
      rw [l0]
      have : (cs.map fun _ => 1).sum = cs.length := by
        clear e0 this h1 h2
        induction cs with
        | nil => rfl
        | cons c cs ih => simp [ih]; omega
      rw [this]; omega
    rw [ej, optE_sm]
    exact ⟨⟨_, _, rfl, rfl, _, rfl, nameOk_chars (by omega) (by omega) h2⟩⟩
theorem lettersOut {done : List Str} (h : done.length ≤ 25) : ∃ c rest, ((List.range 26).map letterAt).filter (fun c => !decide ((⟨#[c]⟩ : Str) ∈ done)) = c :: rest := by
  cases e : ((List.range 26).map letterAt).filter (fun c => !decide ((⟨#[c]⟩ : Str) ∈ done)) with
  | cons c rest => exact ⟨c, rest, rfl⟩
  | nil =>
    exfalso
    rw [List.filter_eq_nil_iff] at e
    have h1 : ∀ c ∈ (List.range 26).map letterAt, (⟨#[c]⟩ : Str) ∈ done := fun c hc => by simpa using e c hc
    have key : ∀ (l : List Nat) (done : List Str), l.Nodup → (∀ c ∈ l, (⟨#[c]⟩ : Str) ∈ done) → l.length ≤ done.length := by
      intro l
      induction l with
      | nil => intro done _ _; simp
      | cons c l ih =>
        intro done hn hm
        obtain ⟨n1, n2⟩ := List.nodup_cons.mp hn
        have := ih (done.erase ⟨#[c]⟩) n2 fun d hd => by
          refine (List.mem_erase_of_ne ?_).mpr (hm d (List.mem_cons_of_mem _ hd))
          intro z
          simp at z
          exact n1 (z ▸ hd)
        have l2 := List.length_erase_of_mem (hm c List.mem_cons_self)
        have : 0 < done.length := List.length_pos_of_mem (hm c List.mem_cons_self)
        simp only [List.length_cons]; omega
    have := key _ done (by decide) h1
    simp at this
    omega

theorem dS_inj {a b : Str} (h : dS a = dS b) : a = b := by injection h
theorem mem_mapS {n : Str} {l : List Str} : dS n ∈ l.map dS ↔ n ∈ l := by
  simp only [List.mem_map]
  exact ⟨fun ⟨q, h, e⟩ => dS_inj e ▸ h, fun h => ⟨n, h, rfl⟩⟩
theorem sim_mapS (l : List Str) (k : Nat) : (l.map dS).all (sim k) = true := by
  simp; intro x _; cases k <;> rfl
theorem sim_dS (n : Str) (k : Nat) : sim k (dS n) = true := by cases k <;> rfl
theorem inO_S (n : Str) (l : List Str) : inO (.str n) (.node .lst (l.map dS)) = some (.bl (decide (n ∈ l))) := by
  classical
  rw [inO_sim .lst rfl (sim_dS n 60) (sim_mapS l 60)]
  congr 2
  rw [decide_eq_decide]; exact mem_mapS
theorem notInO_S (n : Str) (l : List Str) : notInO (.str n) (.node .lst (l.map dS)) = some (.bl (!decide (n ∈ l))) := by
  classical
  rw [notInO_sim .lst rfl (sim_dS n 60) (sim_mapS l 60)]
  congr 3
  rw [decide_eq_decide]; exact mem_mapS
theorem lc_other {n k : Nat} {done : List Str} {s4 s6 : Slot} :
    eLc (eIt (eV 2)) [8] (gSet 8) p_law_names_2 p_law_names_3 (rNames n done s4 (.val (dN k)) s6 .none .none) = .ret (.ok ((.lst, (((List.range 26).map letterAt).filter fun c => !decide ((⟨#[c]⟩ : Str) ∈ done)).map fun c => dS ⟨#[c]⟩), rNames n done s4 (.val (dN k)) s6 .none .none)) := by
  refine eLc_filt (as := (List.range 26).map letterAt) (ρ1 := rNames n done s4 (.val (dN k)) s6 .none .none) (fun c => dS ⟨#[c]⟩) _ (by simp) ?_ (by simp [sz_val]) fun c hc => ?_
  · simp only [rNames, eIt_s, eV_s, List.getElem?_cons_succ, List.getElem?_cons_zero, goV_val, bindE_k]
    show optE (some (z_abcdefghijklmnopqrstuvwxyz.cps.toList.map fun c => D.str ⟨#[c]⟩)) _ = _
    rw [letters_eq]; rfl
  · constructor
    · simp [p_law_names_2, rNames, wipeR, notInO_S]
    · simp [p_law_names_3, rNames, wipeR]
def namesOk (l : List Str) : Prop := l.Nodup ∧ ∀ x ∈ l, nameOk x = true
theorem nameOk1 {c : Nat} (h : isLetter c = true) : nameOk ⟨#[c]⟩ = true := by
  simp [nameOk, h]
  show 1 ≤ 1 ∧ 1 ≤ 8
  omega
def names_r2 : SM := (sSeq (sIf (eTst (eBinQ inO (eQ (qV 6)) (qV 3))) (sSet 6 (eBinQ ixO (eFz (eLc (eIt (eV 2)) [8] (gSet 8) p_law_names_2 p_law_names_3)) (qC (.int 0)))) sPass)
  (sDrop (eMt 3 fAppend (eCons (eV 6) eNil))))
def names_r1 : SM := (sSeq (sSet 6 (eJoin (eC (.str zh_)) (eFz (eLc (eRng1 (eCons (eV 5) eNil)) [7] (gSet 7) eYes p_law_names_1)))) names_r2)
theorem names_p4 : p_law_names_4 = sSeq (sSet 5 (eBin ixO (eFz (eLst (eCons (eC (.int 1)) (eCons (eC (.int 2)) (eCons (eC (.int 3)) (eCons (eC (.int 8)) eNil)))))) (eCall m_law_draw 2 0 (fun ds _ => ds) (eCl1 (eCons (eV 0) (eCons (eC (.int 4)) eNil)))))) names_r1 := rfl
theorem names_add {done : List Str} {w : Str} (hd : namesOk done) (hm : w ∉ done) (hw : nameOk w = true) : namesOk (done ++ [w]) := by
  refine ⟨?_, fun x hx => ?_⟩
  · rw [List.nodup_append]; exact ⟨hd.1, by simp, fun a ha b hb => by simp at hb; subst hb; exact fun z => hm (z ▸ ha)⟩
  · rcases List.mem_append.mp hx with z | z
    · exact hd.2 x z
    · simp at z; rw [z]; exact hw
theorem names_t2 {n k : Nat} {done : List Str} {s4 : Slot} {w : Str} (hd : namesOk done) (hl : done.length ≤ 4) (hw : nameOk w = true) :
    ∃ w' s6', names_r2 (rNames n done s4 (.val (dN k)) (.val (.str w)) .none .none) = .ret (.nx (rNames n (done ++ [w']) s4 (.val (dN k)) s6' .none .none)) ∧ namesOk (done ++ [w']) := by
  have hz : done.length < sz := by rw [sz_val]; omega
  by_cases hm : w ∈ done
  · obtain ⟨c, rest, e⟩ := lettersOut (done := done) (by omega)
    have lo := lc_other (n := n) (k := k) (done := done) (s4 := s4) (s6 := .val (.str w))
    rw [e] at lo
    have hc : c ∈ ((List.range 26).map letterAt).filter fun c => !decide ((⟨#[c]⟩ : Str) ∈ done) := by rw [e]; exact List.mem_cons_self
    obtain ⟨hc1, hc2⟩ := List.mem_filter.mp hc
    have hcl : isLetter c = true := by unfold isLetter; rw [letters_eq]; simpa using hc1
    have hcn : (⟨#[c]⟩ : Str) ∉ done := by simpa using hc2
    refine ⟨⟨#[c]⟩, .val (.str ⟨#[c]⟩), ?_, names_add hd hcn (nameOk1 hcl)⟩
    simp only [rNames] at lo ⊢
    simp [names_r2, inO_S, hm, lo, hz]
  · refine ⟨w, .val (.str w), ?_, names_add hd hm hw⟩
    simp only [rNames]
    simp [names_r2, inO_S, hm, hz]
theorem names_t1 {n k : Nat} {done : List Str} {s4 s6 : Slot} (hd : namesOk done) (hl : done.length ≤ 4) (k1 : 1 ≤ k) (k2 : k ≤ 8) :
    WP (names_r1 (rNames n done s4 (.val (dN k)) s6 .none .none)) fun r => ∃ ρ', r = .nx ρ' ∧ ∃ w s5' s6', ρ' = rNames n (done ++ [w]) s4 s5' s6' .none .none ∧ namesOk (done ++ [w]) := by
  unfold names_r1
  refine WP_seq (fun ρ' => ∃ w, ρ' = rNames n done s4 (.val (dN k)) (.val (.str w)) .none .none ∧ nameOk w = true) ?_ ?_
  · rw [sSet_s]
    refine WP_bindES (fun d ρ' => ρ' = rNames n done s4 (.val (dN k)) s6 .none .none ∧ ∃ w, d = .str w ∧ nameOk w = true) (word_WP k1 k2) ?_
    rintro _ _ ⟨rfl, w, rfl, hw⟩
    exact ⟨⟨_, rfl, w, rfl, hw⟩⟩
  · rintro _ ⟨w, rfl, hw⟩
    obtain ⟨w', s6', e, h⟩ := names_t2 (n := n) (k := k) (s4 := s4) hd hl hw
    rw [e]
    exact ⟨⟨_, rfl, w', _, _, rfl, h⟩⟩
theorem names_size {n : Nat} {done : List Str} {s4 s5 s6 : Slot} : WP (sSet 5 (eBin ixO (eFz (eLst (eCons (eC (.int 1)) (eCons (eC (.int 2)) (eCons (eC (.int 3)) (eCons (eC (.int 8)) eNil)))))) (eCall m_law_draw 2 0 (fun ds _ => ds) (eCl1 (eCons (eV 0) (eCons (eC (.int 4)) eNil))))) (rNames n done s4 s5 s6 .none .none)) fun r => ∃ ρ', r = .nx ρ' ∧ ∃ k, ρ' = rNames n done s4 (.val (dN k)) s6 .none .none ∧ 1 ≤ k ∧ k ≤ 8 := by
  have e1 : eFz (eLst (eCons (eC (.int 1)) (eCons (eC (.int 2)) (eCons (eC (.int 3)) (eCons (eC (.int 8)) eNil))))) (rNames n done s4 s5 s6 .none .none) = .ret (.ok (.node .lst [.int 1, .int 2, .int 3, .int 8], rNames n done s4 s5 s6 .none .none)) := by simp [sz_val]
  rw [sSet_s, eBin_s, e1, bindE_k]
  refine WP_bindES (fun d ρ' => ρ' = rNames n done s4 s5 s6 .none .none ∧ ∃ k, d = dN k ∧ 1 ≤ k ∧ k ≤ 8) ?_ ?_
  · refine WP_bindE (fun d ρ' => ρ' = rNames n done s4 s5 s6 .none .none ∧ ∃ k : Nat, d = dN k ∧ k < 4) (draw_WP (n := 4) rfl rfl (by omega) (by omega)) ?_
    rintro _ _ ⟨rfl, m, rfl, hm⟩
    have hr4 : m = 0 ∨ m = 1 ∨ m = 2 ∨ m = 3 := by omega
    rcases hr4 with rfl | rfl | rfl | rfl
    · exact ⟨⟨_, _, rfl, rfl, 1, rfl, by omega, by omega⟩⟩
    · exact ⟨⟨_, _, rfl, rfl, 2, rfl, by omega, by omega⟩⟩
    · exact ⟨⟨_, _, rfl, rfl, 3, rfl, by omega, by omega⟩⟩
    · exact ⟨⟨_, _, rfl, rfl, 8, rfl, by omega, by omega⟩⟩
  · rintro _ _ ⟨rfl, k, rfl, h1, h2⟩
    exact ⟨⟨_, rfl, k, rfl, h1, h2⟩⟩
theorem names_turn {n : Nat} {done : List Str} {s4 s5 s6 : Slot} (hd : namesOk done) (hl : done.length ≤ 4) :
    WP (p_law_names_4 (rNames n done s4 s5 s6 .none .none)) fun r => ∃ ρ', r = .nx ρ' ∧ ∃ w s5' s6', ρ' = rNames n (done ++ [w]) s4 s5' s6' .none .none ∧ namesOk (done ++ [w]) := by
  rw [names_p4]
  refine WP_seq (fun ρ' => ∃ k, ρ' = rNames n done s4 (.val (dN k)) s6 .none .none ∧ 1 ≤ k ∧ k ≤ 8) names_size ?_
  rintro _ ⟨k, rfl, h1, h2⟩
  exact names_t1 hd hl h1 h2
theorem s_law_names {n : Nat} (hn : n ≤ 4) : WP (m_law_names [.wld 0, dN n]) fun r => ∃ l : List Str, r = .ok (.node .lst (l.map dS)) ∧ l.length = n ∧ namesOk l := by
  have lp := forGo_WP (g := gSet 4) (body := p_law_names_4) 
    (fun xs ρ => ∃ done s4 s5 s6, ρ = rNames n done s4 s5 s6 .none .none ∧ namesOk done ∧ done.length + xs.length = n) (by
      rintro x xs _ ⟨done, s4, s5, s6, rfl, h1, h2⟩
      have hl : done.length + 1 + xs.length = n := by simp only [List.length_cons] at h2; omega
      refine ⟨rNames n done (.val x) s5 s6 .none .none, rfl, (names_turn h1 (by omega)).mono ?_⟩
      rintro _ ⟨ρ', rfl, w, s5', s6', rfl, h⟩
      refine ⟨_, rfl, _, _, _, _, rfl, h, ?_⟩
      simp only [List.length_append, List.length_cons, List.length_nil]; omega)
    ((List.range n).map dN) (rNames n [] .none .none .none .none .none) ⟨[], _, _, _, rfl, ⟨.nil, by simp⟩, by simp⟩
  have er : eRng1 (eCons (eV 1) eNil) (rNames n [] .none .none .none .none .none) = .ret (.ok ((List.range n).map dN, rNames n [] .none .none .none .none .none)) := eRng1_of (by simp [rNames]) (by rw [sz_val]; omega)
  have e1 : sSet 2 (eC (.str z_abcdefghijklmnopqrstuvwxyz)) (startR 9 [.wld 0, dN n]) = .ret (.nx [.val (.wld 0), .val (dN n), .val (.str z_abcdefghijklmnopqrstuvwxyz), .none, .none, .none, .none, .none, .none]) := by simp
  have e2 : sNew 3 (eLst eNil) [.val (.wld 0), .val (dN n), .val (.str z_abcdefghijklmnopqrstuvwxyz), .none, .none, .none, .none, .none, .none] = .ret (.nx (rNames n [] .none .none .none .none .none)) := by simp [rNames]
  unfold m_law_names
  refine (WP_runD (Q := fun r => ∃ l : List Str, r = .ok (.node .lst (l.map dS)) ∧ l.length = n ∧ namesOk l) (WP_seq1 e1 (WP_seq1 e2 (WP_seq _ (by rw [sFor_s, er, bindES_ok]; exact lp) ?_)))).mono fun _ h => h
  rintro _ ⟨l, s4, s5, s6, rfl, h1, h2⟩
  refine ⟨⟨_, ?_, l, rfl, by simpa using h2, h1⟩⟩
  rfl
end DL

/-! S10: drawn kinds: answers. -/
namespace DL
open PySem PySem.Spec PyProof.Rows L2 PySem.W
open Classical in
theorem notInO_A (p : Ans) (l : List Ans) : notInO (dA p) (.node .lst (l.map dA)) = some (.bl (!decide (p ∈ l))) := by
  rw [notInO_sim .lst rfl (sim_dA p 59) (sim_mapA l 59)]
  congr 3
  rw [decide_eq_decide]; exact mem_mapA
theorem two_sz : 2 ≤ sz := by rw [sz_val]; decide
/-! ### answers -/
def rAns (S R : Nat) (tot s4 : Slot) (done : List Ans) (s6 s7 : Slot) : Rho := [.val (.wld 0), .val (dN S), .val (dN R), tot, s4, .own .lst (done.map dA), s6, s7]
def ansPre (R S : Nat) (l : List Ans) : Prop := l.Nodup ∧ ∀ p ∈ l, p.1 < R ∧ p.2 < S
theorem ans_draw {S R : Nat} {tot s4 s6 s7 : Slot} {done : List Ans} (hS : 0 < S) (hS2 : S ≤ 8) (hR : 0 < R) (hR2 : R ≤ 8) :
    WP (sSet 7 (eTup (eCons (eCall m_law_draw 2 0 (fun ds _ => ds) (eCl1 (eCons (eV 0) (eCons (eV 2) eNil)))) (eCons (eCall m_law_draw 2 0 (fun ds _ => ds) (eCl1 (eCons (eV 0) (eCons (eV 1) eNil)))) eNil))) (rAns S R tot s4 done s6 s7)) fun r => ∃ ρ', r = .nx ρ' ∧ ∃ p : Ans, ρ' = rAns S R tot s4 done s6 (.val (dA p)) ∧ p.1 < R ∧ p.2 < S := by
  rw [sSet_s, eTup_s]
  refine WP_bindES (fun d ρ' => ρ' = rAns S R tot s4 done s6 s7 ∧ ∃ p : Ans, d = dA p ∧ p.1 < R ∧ p.2 < S) ?_ ?_
  · refine WP_bindE (fun ds ρ' => ρ' = rAns S R tot s4 done s6 s7 ∧ ∃ a b : Nat, ds = [dN a, dN b] ∧ a < R ∧ b < S) ?_ ?_
    · rw [eCons_s]
      refine WP_bindE (fun d ρ' => ρ' = rAns S R tot s4 done s6 s7 ∧ ∃ k : Nat, d = dN k ∧ k < R) (draw_WP (n := R) rfl rfl (by omega) hR) ?_
      rintro _ _ ⟨rfl, a, rfl, ha⟩
      refine WP_bindE (fun ds ρ' => ρ' = rAns S R tot s4 done s6 s7 ∧ ∃ b : Nat, ds = [dN b] ∧ b < S) ?_ ?_
      · rw [eCons_s]
        refine WP_bindE (fun d ρ' => ρ' = rAns S R tot s4 done s6 s7 ∧ ∃ k : Nat, d = dN k ∧ k < S) (draw_WP (n := S) rfl rfl (by omega) hS) ?_
        rintro _ _ ⟨rfl, b, rfl, hb⟩
        rw [eNil_s, bindE_k]
        exact ⟨⟨_, _, rfl, rfl, b, rfl, hb⟩⟩
      · rintro _ _ ⟨rfl, b, rfl, hb⟩
        exact ⟨⟨_, _, rfl, rfl, a, b, rfl, ha, hb⟩⟩
    · rintro _ _ ⟨rfl, a, b, rfl, ha, hb⟩
      rw [if_pos (show ([dN a, dN b] : List D).length ≤ sz from two_sz)]
      exact ⟨⟨_, _, rfl, rfl, (a, b), rfl, ha, hb⟩⟩
  · rintro _ _ ⟨rfl, p, rfl, h⟩
    exact ⟨⟨_, rfl, p, rfl, h⟩⟩
def ans_r1 : SM := (sIf (eTst (eBinQ notInO (eQ (qV 7)) (qV 5))) (sDrop (eMt 5 fAppend (eCons (eV 7) eNil))) sPass)
theorem ans_p1 : p_law_answers_1 = sSeq (sSet 7 (eTup (eCons (eCall m_law_draw 2 0 (fun ds _ => ds) (eCl1 (eCons (eV 0) (eCons (eV 2) eNil)))) (eCons (eCall m_law_draw 2 0 (fun ds _ => ds) (eCl1 (eCons (eV 0) (eCons (eV 1) eNil)))) eNil)))) ans_r1 := rfl
open Classical in
theorem ans_t1 {S R : Nat} {tot s4 s6 : Slot} {done : List Ans} {p : Ans} (hl : done.length ≤ 100) :
    ans_r1 (rAns S R tot s4 done s6 (.val (dA p))) = .ret (.nx (rAns S R tot s4 (if p ∈ done then done else done ++ [p]) s6 (.val (dA p)))) := by
  have hz : done.length < sz := by rw [sz_val]; omega
  have e := notInO_A p done
  by_cases hm : p ∈ done
  · simp only [hm, decide_true] at e
    simp [rAns, ans_r1, e, hm]
  · simp only [hm, decide_false] at e
    simp [rAns, ans_r1, e, hm, hz]
theorem ans_turn {S R : Nat} {tot s4 s6 s7 : Slot} {done : List Ans} (hS : 0 < S) (hS2 : S ≤ 8) (hR : 0 < R) (hR2 : R ≤ 8) (hd : ansPre R S done) (hl : done.length ≤ 100) :
    WP (p_law_answers_1 (rAns S R tot s4 done s6 s7)) fun r => ∃ ρ', r = .nx ρ' ∧ ∃ done' s7', ρ' = rAns S R tot s4 done' s6 s7' ∧ ansPre R S done' ∧ done'.length ≤ done.length + 1 := by
  classical
  rw [ans_p1]
  refine WP_seq (fun ρ' => ∃ p : Ans, ρ' = rAns S R tot s4 done s6 (.val (dA p)) ∧ p.1 < R ∧ p.2 < S) (ans_draw hS hS2 hR hR2) ?_
  rintro _ ⟨p, rfl, hp⟩
  rw [ans_t1 hl]
  refine ⟨⟨_, rfl, _, _, rfl, ?_⟩⟩
  by_cases hm : p ∈ done
  · rw [if_pos hm]; exact ⟨hd, by omega⟩
  · rw [if_neg hm]
    refine ⟨⟨?_, fun x hx => ?_⟩, by simp⟩
    · rw [List.nodup_append]; exact ⟨hd.1, by simp, fun x hx y hy => by simp at hy; subst hy; exact fun z => hm (z ▸ hx)⟩
    · rcases List.mem_append.mp hx with z | z
      · exact hd.2 x z
      · simp at z; rw [z]; exact hp
def rowOk (R S : Nat) (l : List Ans) : Prop := ansOk R S l ∧ sortBy dA l = l
def ans_r2 : SM := (sSeq (sNew 5 (eLst eNil))
  (sSeq (sFor (eRng1 (eCons (eBin max2O (eV 4) (e1 int1O (eQ (qV 3)))) eNil)) (gSet 6) p_law_answers_1)
  (sRet (eFz (f1 sortO (eQ (qV 5)))))))
theorem ans_m : m_law_answers = runD 8 (sSeq (sSet 4 (eBin ixO (eFz (eLst (eCons (eC (.int 1)) (eCons (eC (.int 1)) (eCons (eC (.int 1)) (eCons (eC (.int 1)) (eCons (eC (.int 2)) (eCons (eC (.int 3)) (eCons (eC (.int 8)) (eCons (eC (.int 0)) eNil)))))))))) (eCall m_law_draw 2 0 (fun ds _ => ds) (eCl1 (eCons (eV 0) (eCons (eC (.int 8)) eNil)))))) ans_r2) := rfl
theorem max_tot (n : Nat) (hn : n ≤ 8) (tot : Bool) : ∃ m : Nat, max2O (dN n) (.int (if tot then 1 else 0)) = some (dN m) ∧ m ≤ 8 := by
  cases tot with
  | false => exact ⟨n, by show some (D.int (if (0 : Int) > n then 0 else n)) = _; rw [if_neg (by omega)], hn⟩
  | true =>
    by_cases h : n = 0
    · exact ⟨1, by subst h; rfl, by omega⟩
    · exact ⟨n, by show some (D.int (if (1 : Int) > n then 1 else n)) = _; rw [if_neg (by omega)], hn⟩
theorem ans_t2 {S R n : Nat} {tot : Bool} (hS : 0 < S) (hS2 : S ≤ 8) (hR : 0 < R) (hR2 : R ≤ 8) (hn : n ≤ 8) :
    WP (ans_r2 [.val (.wld 0), .val (dN S), .val (dN R), .val (.bl tot), .val (dN n), .none, .none, .none]) fun r => ∃ l, r = .rt (dRow .lst l) ∧ rowOk R S l := by
  obtain ⟨m, hm, hm8⟩ := max_tot n hn tot
  have lp := forGo_WP (g := gSet 6) (body := p_law_answers_1)
    (fun xs ρ => ∃ done s6 s7, ρ = rAns S R (.val (.bl tot)) (.val (dN n)) done s6 s7 ∧ ansPre R S done ∧ done.length + xs.length ≤ 8) (by
      rintro x xs _ ⟨done, s6, s7, rfl, h1, h2⟩
      have hl : done.length + 1 + xs.length ≤ 8 := by simp only [List.length_cons] at h2; omega
      have hl2 : done.length ≤ 100 := by omega
      refine ⟨rAns S R (.val (.bl tot)) (.val (dN n)) done (.val x) s7, rfl, (ans_turn hS hS2 hR hR2 h1 hl2).mono ?_⟩
      rintro _ ⟨ρ', rfl, d', s7', rfl, h, h3⟩
      have hl3 : d'.length + xs.length ≤ 8 := by omega
      exact ⟨_, rfl, d', _, s7', rfl, h, hl3⟩)
    ((List.range m).map dN) (rAns S R (.val (.bl tot)) (.val (dN n)) [] .none .none) ⟨[], _, _, rfl, ⟨.nil, by simp⟩, by simpa using hm8⟩
  have i1 : int1O (.bl tot) = some (.int (if tot then 1 else 0)) := rfl
  have er : eRng1 (eCons (eBin max2O (eV 4) (e1 int1O (eQ (qV 3)))) eNil) (rAns S R (.val (.bl tot)) (.val (dN n)) [] .none .none) = .ret (.ok ((List.range m).map dN, rAns S R (.val (.bl tot)) (.val (dN n)) [] .none .none)) := by
    have hz : m ≤ sz := by rw [sz_val]; omega
    refine eRng1_of ?_ hz
    simp only [rAns, eCons_s, eBin_s, eV_s, List.getElem?_cons_succ, List.getElem?_cons_zero, goV_val, bindE_k, e1_s, eQ_s, qV_s, slV_val, optE_sm, i1, hm, eNil_s]
  have e2 : sNew 5 (eLst eNil) [.val (.wld 0), .val (dN S), .val (dN R), .val (.bl tot), .val (dN n), .none, .none, .none] = .ret (.nx (rAns S R (.val (.bl tot)) (.val (dN n)) [] .none .none)) := by simp [rAns]
  unfold ans_r2
  refine WP_seq1 e2 (WP_seq _ (by rw [sFor_s, er, bindES_ok]; exact lp) ?_)
  rintro _ ⟨l, s6, s7, rfl, h1, h2⟩
  have h8 : l.length ≤ 8 := by simpa using h2
  have hz : l.length ≤ sz := by rw [sz_val]; omega
  have es := sortO_A l hz
  have pm := sortBy_perm dA l
  have e3 : (sRet (eFz (f1 sortO (eQ (qV 5))))) (rAns S R (.val (.bl tot)) (.val (dN n)) l s6 s7) = .ret (.rt (dRow .lst (sortBy dA l))) := by
    simp [rAns, es, dRow]
  rw [e3]
  exact ⟨⟨_, rfl, ⟨by rw [pm.length_eq]; exact h8, pm.nodup_iff.mpr h1.1, fun p hp => h1.2 p (pm.mem_iff.mp hp)⟩, sortBy_idem dA l⟩⟩
theorem s_law_answers {S R : Nat} {tot : Bool} (hS : 0 < S) (hS2 : S ≤ 8) (hR : 0 < R) (hR2 : R ≤ 8) :
    WP (m_law_answers [.wld 0, dN S, dN R, .bl tot]) fun r => ∃ l, r = .ok (dRow .lst l) ∧ rowOk R S l := by
  rw [ans_m]
  have e0 : startR 8 [.wld 0, dN S, dN R, .bl tot] = [.val (.wld 0), .val (dN S), .val (dN R), .val (.bl tot), .none, .none, .none, .none] := rfl
  have e1 : eFz (eLst (eCons (eC (.int 1)) (eCons (eC (.int 1)) (eCons (eC (.int 1)) (eCons (eC (.int 1)) (eCons (eC (.int 2)) (eCons (eC (.int 3)) (eCons (eC (.int 8)) (eCons (eC (.int 0)) eNil))))))))) [.val (.wld 0), .val (dN S), .val (dN R), .val (.bl tot), .none, .none, .none, .none] = .ret (.ok (.node .lst [.int 1, .int 1, .int 1, .int 1, .int 2, .int 3, .int 8, .int 0], [.val (.wld 0), .val (dN S), .val (dN R), .val (.bl tot), .none, .none, .none, .none])) := by simp [sz_val]
  refine (WP_runD (Q := fun r => ∃ l, r = .ok (dRow .lst l) ∧ rowOk R S l) ?_).mono fun _ h => h
  rw [e0]
  refine WP_seq (fun ρ' => ∃ n : Nat, ρ' = [.val (.wld 0), .val (dN S), .val (dN R), .val (.bl tot), .val (dN n), .none, .none, .none] ∧ n ≤ 8) ?_ ?_
  · rw [sSet_s, eBin_s, e1, bindE_k]
    refine WP_bindES (fun d ρ' => ρ' = [.val (.wld 0), .val (dN S), .val (dN R), .val (.bl tot), .none, .none, .none, .none] ∧ ∃ n : Nat, d = dN n ∧ n ≤ 8) ?_ ?_
    · refine WP_bindE (fun d ρ' => ρ' = [.val (.wld 0), .val (dN S), .val (dN R), .val (.bl tot), .none, .none, .none, .none] ∧ ∃ k : Nat, d = dN k ∧ k < 8) (draw_WP (n := 8) rfl rfl (by omega) (by omega)) ?_
      rintro _ _ ⟨rfl, m, rfl, hm⟩
      have h8 : m = 0 ∨ m = 1 ∨ m = 2 ∨ m = 3 ∨ m = 4 ∨ m = 5 ∨ m = 6 ∨ m = 7 := by omega
      rcases h8 with rfl | rfl | rfl | rfl | rfl | rfl | rfl | rfl
      · exact ⟨⟨_, _, rfl, rfl, 1, rfl, by omega⟩⟩
      · exact ⟨⟨_, _, rfl, rfl, 1, rfl, by omega⟩⟩
      · exact ⟨⟨_, _, rfl, rfl, 1, rfl, by omega⟩⟩
      · exact ⟨⟨_, _, rfl, rfl, 1, rfl, by omega⟩⟩
      · exact ⟨⟨_, _, rfl, rfl, 2, rfl, by omega⟩⟩
      · exact ⟨⟨_, _, rfl, rfl, 3, rfl, by omega⟩⟩
      · exact ⟨⟨_, _, rfl, rfl, 8, rfl, by omega⟩⟩
      · exact ⟨⟨_, _, rfl, rfl, 0, rfl, by omega⟩⟩
    · rintro _ _ ⟨rfl, n, rfl, hn⟩
      exact ⟨⟨_, rfl, n, rfl, hn⟩⟩
  · rintro _ ⟨n, rfl, hn⟩
    refine (ans_t2 hS hS2 hR hR2 hn).mono ?_
    rintro _ ⟨l, rfl, h⟩
    exact ⟨_, rfl, l, rfl, h⟩
end DL

/-! S11: drawn kinds: methods. -/
namespace DL
open PySem PySem.Spec PyProof.Rows L2 PySem.W
/-- a written row of numbers, at a drawn place -/
theorem pick_WP {i : Nat} {e : EM D} {m : EM D} {ρ : Rho} {ns : List Nat} (hm : m ρ = .ret (.ok (.node .lst (ns.map dN), ρ))) (h0 : ρ[i]? = some (.val (.wld 0))) (he : e ρ = .ret (.ok (.int ns.length, ρ))) (hn : ns.length ≤ 100) (hp : 0 < ns.length) :
    WP (eBin ixO m (eCall m_law_draw 2 0 (fun ds _ => ds) (eCl1 (eCons (eV i) (eCons e eNil)))) ρ) fun r => ∃ d ρ', r = .ok (d, ρ') ∧ ρ' = ρ ∧ ∃ k : Nat, d = dN k ∧ k ∈ ns := by
  rw [eBin_s, hm, bindE_k]
  refine WP_bindE (fun d ρ' => ρ' = ρ ∧ ∃ k : Nat, d = dN k ∧ k < ns.length) (draw_WP h0 he hn hp) ?_
  rintro _ _ ⟨rfl, k, rfl, hk⟩
  rw [ixO_lst, atI_nat, List.getElem?_map, List.getElem?_eq_getElem hk]
  exact ⟨⟨_, _, rfl, rfl, _, rfl, List.getElem_mem hk⟩⟩
theorem set_WP {i : Nat} {m : EM D} {ρ : Rho} {P : D → Prop} (h : WP (m ρ) fun r => ∃ d ρ', r = .ok (d, ρ') ∧ ρ' = ρ ∧ P d) : WP (sSet i m ρ) fun r => ∃ ρ', r = .nx ρ' ∧ ∃ d, ρ' = ρ.set i (.val d) ∧ P d := by
  rw [sSet_s]
  refine WP_bindES (fun d ρ' => ρ' = ρ ∧ P d) h ?_
  rintro d _ ⟨rfl, p⟩
  exact ⟨⟨_, rfl, d, rfl, p⟩⟩
/-- a call of a def that draws -/
theorem call_WP {m : FM} {n : Nat} {ma : EM (List D)} {ρ : Rho} {ds : List D} {P : D → Prop} (ha : ma ρ = .ret (.ok (ds, ρ))) (hl : ds.length = n) (h : WP (m ds) fun r => ∃ d, r = .ok d ∧ P d) :
    WP (eCall m n 0 (fun ds _ => ds) (eCl1 ma) ρ) fun r => ∃ d ρ', r = .ok (d, ρ') ∧ ρ' = ρ ∧ P d := by
  rw [eCall_s, eCl1_s, ha, bindE_k, bindE_k, if_pos ⟨hl, rfl⟩, callM_eq]
  refine WP_bind (h.mono ?_)
  rintro _ ⟨d, rfl, p⟩
  exact ⟨⟨d, ρ, rfl, rfl, p⟩⟩
def rMeth (S : Nat) (tot : Slot) (a r : Slot) (done : List (List (List Ans))) (s6 s7 : Slot) : Rho := [.val (.wld 0), .val (dN S), tot, a, r, .own .lst (done.map (dLine .lst .lst)), s6, s7]
def lineOk (a R S : Nat) (line : List (List Ans)) : Prop := line.length = a ∧ ∀ row ∈ line, rowOk R S row
theorem meth_line {S a R : Nat} {tot : Bool} {done : List (List (List Ans))} {s6 s7 : Slot} (hS : 0 < S) (hS2 : S ≤ 8) (hR : 0 < R) (hR2 : R ≤ 8) (ha : a ≤ 8) :
    WP (eLc (eRng1 (eCons (eV 3) eNil)) [7] (gSet 7) eYes p_law_method_1 (rMeth S (.val (.bl tot)) (.val (dN a)) (.val (dN R)) done s6 s7)) fun r => ∃ p ρ', r = .ok (p, ρ') ∧ ρ' = rMeth S (.val (.bl tot)) (.val (dN a)) (.val (dN R)) done s6 .none ∧ ∃ line, p = (.lst, line.map (dRow .lst)) ∧ lineOk a R S line := by
  have hz : a ≤ sz := by rw [sz_val]; omega
  refine (eLc_WP (ρ1 := rMeth S (.val (.bl tot)) (.val (dN a)) (.val (dN R)) done s6 s7) (xs := (List.range a).map dN) (fun ds xs => ∃ line : List (List Ans), ds = line.map (dRow .lst) ∧ (∀ row ∈ line, rowOk R S row) ∧ line.length + xs.length = a)
    (eRng1_of (by simp [rMeth]) hz) (by rw [List.length_map, List.length_range]; exact hz) ⟨[], rfl, by simp, by simp⟩ ?_).mono ?_
  · rintro x xs _ ⟨line, rfl, h1, h2⟩
    refine ⟨_, rfl, ?_⟩
    unfold p_law_method_1
    refine (call_WP (P := fun d => ∃ l, d = dRow .lst l ∧ rowOk R S l) (ds := [.wld 0, dN S, dN R, .bl tot]) rfl rfl ((s_law_answers hS hS2 hR hR2).mono ?_)).mono ?_
    · rintro _ ⟨l, rfl, h⟩; exact ⟨_, rfl, l, rfl, h⟩
    · rintro _ ⟨_, _, rfl, rfl, l, rfl, h⟩
      refine ⟨_, _, rfl, rfl, line ++ [l], by simp, ?_, by simp at h2 ⊢; omega⟩
      intro row hrow
      rcases List.mem_append.mp hrow with z | z
      · exact h1 row z
      · simp at z; rw [z]; exact h
  · rintro _ ⟨p, ρ', rfl, rfl, ys, rfl, line, rfl, h1, h2⟩
    exact ⟨_, _, rfl, rfl, line, rfl, by simpa using h2, h1⟩
theorem meth_turn {S a R : Nat} {tot : Bool} {done : List (List (List Ans))} {s6 s7 : Slot} (hS : 0 < S) (hS2 : S ≤ 8) (hR : 0 < R) (hR2 : R ≤ 8) (ha : a ≤ 8) (hl : done.length ≤ 100) :
    WP (p_law_method_2 (rMeth S (.val (.bl tot)) (.val (dN a)) (.val (dN R)) done s6 s7)) fun r => ∃ ρ', r = .nx ρ' ∧ ∃ line, ρ' = rMeth S (.val (.bl tot)) (.val (dN a)) (.val (dN R)) (done ++ [line]) s6 .none ∧ lineOk a R S line := by
  have hz : done.length < sz := by rw [sz_val]; omega
  have hz' : (done.map (dLine .lst .lst)).length < sz := by rw [List.length_map]; exact hz
  unfold p_law_method_2
  rw [sDrop_s, eMt_s]
  refine WP_bindES (fun d ρ' => ∃ line, ρ' = rMeth S (.val (.bl tot)) (.val (dN a)) (.val (dN R)) (done ++ [line]) s6 .none ∧ lineOk a R S line) ?_ ?_
  · show WP (goL1 _ (some (.own .lst (done.map (dLine .lst .lst))))) _
    rw [goL1_own]
    refine WP_bindE (fun ds ρ' => ρ' = rMeth S (.val (.bl tot)) (.val (dN a)) (.val (dN R)) done s6 .none ∧ ∃ line, ds = [dLine .lst .lst line] ∧ lineOk a R S line) ?_ ?_
    · rw [eCons_s, eFz_s]
      refine WP_bindE (fun d ρ' => ρ' = rMeth S (.val (.bl tot)) (.val (dN a)) (.val (dN R)) done s6 .none ∧ ∃ line, d = dLine .lst .lst line ∧ lineOk a R S line) ?_ ?_
      · refine WP_bindE _ (meth_line hS hS2 hR hR2 ha) ?_
        rintro _ _ ⟨rfl, line, rfl, h⟩
        rw [whole_lst, if_pos rfl]
        exact ⟨⟨_, _, rfl, rfl, line, rfl, h⟩⟩
      · rintro _ _ ⟨rfl, line, rfl, h⟩
        rw [eNil_s, bindE_k]
        exact ⟨⟨_, _, rfl, rfl, line, rfl, h⟩⟩
    · rintro _ _ ⟨rfl, line, rfl, h⟩
      show WP (goL2 _ (some (.own .lst (done.map (dLine .lst .lst))))) _
      rw [goL2_own, fAppend_s, if_pos hz', goO_some]
      refine ⟨⟨_, _, rfl, line, ?_, h⟩⟩
      simp [rMeth]
  · rintro _ _ ⟨line, rfl, h⟩
    exact ⟨⟨_, rfl, line, rfl, h⟩⟩
def methSorted (m : Meth) : Prop := ∀ line ∈ m.rows, ∀ row ∈ line, sortBy dA row = row
theorem sortM_id {m : Meth} (h : methSorted m) : sortM m = m := by
  unfold sortM
  have : m.rows.map (fun line => line.map fun row => sortBy dA row) = m.rows := by
    conv => rhs; rw [← List.map_id m.rows]
    refine List.map_congr_left fun line hl => ?_
    conv => rhs; rw [id, ← List.map_id line]
    exact List.map_congr_left fun row hr => h line hl row hr
  rw [this]
end DL

/-! S12: drawn kinds: the models. -/
namespace DL
open PySem PySem.Spec PyProof.Rows L2 PySem.W
theorem s_law_method {S : Nat} {tot : Bool} (hS : 0 < S) (hS2 : S ≤ 8) :
    WP (m_law_method [.wld 0, dN S, .bl tot]) fun r => ∃ m, r = .ok (dMeth .lst .lst .lst m) ∧ methOk S m ∧ methSorted m := by
  unfold m_law_method
  refine (WP_runD (Q := fun r => ∃ m, r = .ok (dMeth .lst .lst .lst m) ∧ methOk S m ∧ methSorted m) ?_).mono fun _ h => h
  have e0 : startR 8 [.wld 0, dN S, .bl tot] = [.val (.wld 0), .val (dN S), .val (.bl tot), .none, .none, .none, .none, .none] := rfl
  rw [e0]
  refine WP_seq _ (set_WP (P := fun d => ∃ k : Nat, d = dN k ∧ k ∈ [1, 1, 2, 3, 4]) (pick_WP (ns := [1, 1, 2, 3, 4]) (by simp [sz_val]) rfl rfl (by simp) (by simp))) ?_
  rintro _ ⟨_, rfl, a, rfl, ha⟩
  have ha1 : 1 ≤ a ∧ a ≤ 4 := by simp at ha; omega
  refine WP_seq _ (set_WP (P := fun d => ∃ k : Nat, d = dN k ∧ k ∈ [1, 2, 2, 3, 4]) (pick_WP (ns := [1, 2, 2, 3, 4]) (by simp [sz_val]) rfl rfl (by simp) (by simp))) ?_
  rintro _ ⟨_, rfl, R, rfl, hR⟩
  have hR1 : 1 ≤ R ∧ R ≤ 4 := by simp at hR; omega
  have e2 : sNew 5 (eLst eNil) (([.val (.wld 0), .val (dN S), .val (.bl tot), .none, .none, .none, .none, .none] : Rho).set 3 (.val (dN a)) |>.set 4 (.val (dN R))) = .ret (.nx (rMeth S (.val (.bl tot)) (.val (dN a)) (.val (dN R)) [] .none .none)) := by simp [rMeth]
  have hz : S ≤ sz := by rw [sz_val]; omega
  have er : eRng1 (eCons (eV 1) eNil) (rMeth S (.val (.bl tot)) (.val (dN a)) (.val (dN R)) [] .none .none) = .ret (.ok ((List.range S).map dN, rMeth S (.val (.bl tot)) (.val (dN a)) (.val (dN R)) [] .none .none)) := eRng1_of (by simp [rMeth]) hz
  have lp := forGo_WP (g := gSet 6) (body := p_law_method_2)
    (fun xs ρ => ∃ done s6 s7, ρ = rMeth S (.val (.bl tot)) (.val (dN a)) (.val (dN R)) done s6 s7 ∧ (∀ line ∈ done, lineOk a R S line) ∧ done.length + xs.length = S) (by
      rintro x xs _ ⟨done, s6, s7, rfl, h1, h2⟩
      have hl : done.length + 1 + xs.length = S := by simp only [List.length_cons] at h2; omega
      have hl2 : done.length ≤ 100 := by omega
      refine ⟨rMeth S (.val (.bl tot)) (.val (dN a)) (.val (dN R)) done (.val x) s7, rfl, (meth_turn hS hS2 (by omega) (by omega) (by omega) hl2).mono ?_⟩
      rintro _ ⟨ρ', rfl, line, rfl, h⟩
      have hl3 : (done ++ [line]).length + xs.length = S := by simp; omega
      refine ⟨_, rfl, _, _, _, rfl, ?_, hl3⟩
      intro l hl
      rcases List.mem_append.mp hl with z | z
      · exact h1 l z
      · simp at z; rw [z]; exact h)
    ((List.range S).map dN) (rMeth S (.val (.bl tot)) (.val (dN a)) (.val (dN R)) [] .none .none) ⟨[], _, _, rfl, by simp, by simp⟩
  refine WP_seq1 e2 (WP_seq _ (by rw [sFor_s, er, bindES_ok]; exact lp) ?_)
  rintro _ ⟨rows, s6, s7, rfl, h1, h2⟩
  have e3 : (sRet (eTup (eCons (eV 3) (eCons (eV 4) (eCons (eV 5) eNil))))) (rMeth S (.val (.bl tot)) (.val (dN a)) (.val (dN R)) rows s6 s7) = .ret (.rt (dMeth .lst .lst .lst ⟨a, R, rows⟩)) := by
    simp [rMeth, dMeth, dRows, sz_val]
  rw [e3]
  refine ⟨⟨_, rfl, ⟨a, R, rows⟩, rfl, ⟨ha1.1, ha1.2, hR1.1, hR1.2, by simpa using h2, fun line hl => ⟨(h1 line hl).1, fun row hr => ((h1 line hl).2 row hr).1⟩⟩, fun line hl row hr => ((h1 line hl).2 row hr).2⟩⟩
def rModel (tot most : Slot) (S : Nat) (done : List (Str × Meth)) (s5 : Slot) : Rho := [.val (.wld 0), tot, most, .val (dN S), .own (.dct (done.map fun p => kS p.1)) (done.map fun p => dMeth .lst .lst .lst p.2), s5]
def msOk (S : Nat) (ms : List (Str × Meth)) : Prop := ∀ p ∈ ms, nameOk p.1 = true ∧ methOk S p.2 ∧ methSorted p.2
theorem model_turn {S : Nat} {tot : Bool} {most : Slot} {done : List (Str × Meth)} {n : Str} (hS : 0 < S) (hS2 : S ≤ 8) (hn : n ∉ done.map (·.1)) (hl : done.length ≤ 100) :
    WP (p_law_model_1 (rModel (.val (.bl tot)) most S done (.val (dS n)))) fun r => ∃ ρ', r = .nx ρ' ∧ ∃ m, ρ' = rModel (.val (.bl tot)) most S (done ++ [(n, m)]) (.val (dS n)) ∧ methOk S m ∧ methSorted m := by
  have hz : (done.map fun p => kS p.1).length < sz := by rw [List.length_map, sz_val]; omega
  unfold p_law_model_1
  rw [sPut_s]
  refine WP_bindES (fun d ρ' => ρ' = rModel (.val (.bl tot)) most S done (.val (dS n)) ∧ ∃ m, d = dMeth .lst .lst .lst m ∧ methOk S m ∧ methSorted m)
    ((call_WP (P := fun d => ∃ m, d = dMeth .lst .lst .lst m ∧ methOk S m ∧ methSorted m) (ds := [.wld 0, dN S, .bl tot]) rfl rfl ((s_law_method hS hS2).mono ?_))) ?_
  · rintro _ ⟨m, rfl, h⟩; exact ⟨_, rfl, m, rfl, h⟩
  · rintro _ _ ⟨rfl, m, rfl, h⟩
    obtain ⟨q1, q2⟩ := putMap (f := dMeth .lst .lst .lst) (x := m) hn
    have e : goPs (bindES (eV 5 (rModel (.val (.bl tot)) most S done (.val (dS n)))) fun k ρ2 => goPt ρ2 4 (putSlot ρ2[4]? k (dMeth .lst .lst .lst m))) (rModel (.val (.bl tot)) most S done (.val (dS n)))[4]? = .ret (.nx (rModel (.val (.bl tot)) most S (done ++ [(n, m)]) (.val (dS n)))) := by
      have e5 : eV 5 (rModel (.val (.bl tot)) most S done (.val (dS n))) = .ret (.ok (dS n, rModel (.val (.bl tot)) most S done (.val (dS n)))) := rfl
      rw [e5, bindES_ok]
      show goPs (goPt _ 4 (putSlot (some (.own (.dct (done.map fun p => kS p.1)) (done.map fun p => dMeth .lst .lst .lst p.2))) (.str n) _)) (some (.own (.dct (done.map fun p => kS p.1)) (done.map fun p => dMeth .lst .lst .lst p.2))) = _
      rw [goPs_own, putSlot_dct, if_pos hz, goPt_some, q1, q2]
      rfl
    rw [e]
    exact ⟨⟨_, rfl, m, rfl, h⟩⟩
end DL

/-! S13: drawn kinds: whole models. -/
namespace DL
open PySem PySem.Spec PyProof.Rows L2 PySem.W
theorem three_sz : 3 ≤ sz := by rw [sz_val]; decide
theorem call_WP2 {m : FM} {n : Nat} {ma : EM (List D)} {ρ : Rho} {A : List D → Prop} {P : D → Prop} (ha : WP (ma ρ) fun r => ∃ ds ρ', r = .ok (ds, ρ') ∧ ρ' = ρ ∧ A ds) (h : ∀ ds, A ds → ds.length = n ∧ WP (m ds) fun r => ∃ d, r = .ok d ∧ P d) :
    WP (eCall m n 0 (fun ds _ => ds) (eCl1 ma) ρ) fun r => ∃ d ρ', r = .ok (d, ρ') ∧ ρ' = ρ ∧ P d := by
  rw [eCall_s, eCl1_s]
  refine WP_bindE (fun p ρ' => ρ' = ρ ∧ ∃ ds, p = (ds, []) ∧ A ds) ?_ ?_
  · refine WP_bindE (fun ds ρ' => ρ' = ρ ∧ A ds) ha ?_
    rintro ds _ ⟨rfl, a⟩
    exact ⟨⟨_, _, rfl, rfl, ds, rfl, a⟩⟩
  · rintro _ _ ⟨rfl, ds, rfl, a⟩
    obtain ⟨hl, hw⟩ := h ds a
    rw [if_pos ⟨hl, rfl⟩, callM_eq]
    refine WP_bind (hw.mono ?_)
    rintro _ ⟨d, rfl, p⟩
    exact ⟨⟨d, _, rfl, rfl, p⟩⟩
def dModel (S st : Nat) (ms : List (Str × Meth)) : D := .node .lst [dN S, dN st, dMap (dMeth .lst .lst .lst) ms]
theorem model_names {S most : Nat} {tot : Bool} (h1 : 1 ≤ most) (h2 : most ≤ 4) :
    WP (eIt (eCall m_law_names 2 0 (fun ds _ => ds) (eCl1 (eCons (eV 0) (eCons (eBin addO (eC (.int 1)) (eCall m_law_draw 2 0 (fun ds _ => ds) (eCl1 (eCons (eV 0) (eCons (eV 2) eNil))))) eNil)))) (rModel (.val (.bl tot)) (.val (dN most)) S [] .none)) fun r => ∃ ds ρ', r = .ok (ds, ρ') ∧ ρ' = rModel (.val (.bl tot)) (.val (dN most)) S [] .none ∧ ∃ l : List Str, ds = l.map dS ∧ 1 ≤ l.length ∧ l.length ≤ 4 ∧ namesOk l := by
  rw [eIt_s]
  refine WP_bindE (fun d ρ' => ρ' = rModel (.val (.bl tot)) (.val (dN most)) S [] .none ∧ ∃ l : List Str, d = .node .lst (l.map dS) ∧ 1 ≤ l.length ∧ l.length ≤ 4 ∧ namesOk l) ?_ ?_
  · refine call_WP2 (A := fun ds => ∃ n : Nat, ds = [.wld 0, dN n] ∧ 1 ≤ n ∧ n ≤ 4) ?_ ?_
    · rw [eCons_s]
      show WP (bindE (goV 0 _ (some (.val (.wld 0)))) _) _
      rw [goV_val, bindE_k]
      refine WP_bindE (fun ds ρ' => ρ' = rModel (.val (.bl tot)) (.val (dN most)) S [] .none ∧ ∃ n : Nat, ds = [dN n] ∧ 1 ≤ n ∧ n ≤ 4) ?_ ?_
      · rw [eCons_s]
        refine WP_bindE (fun d ρ' => ρ' = rModel (.val (.bl tot)) (.val (dN most)) S [] .none ∧ ∃ n : Nat, d = dN n ∧ 1 ≤ n ∧ n ≤ 4) ?_ ?_
        · rw [eBin_s, eC_s, bindE_k]
          refine WP_bindE (fun d ρ' => ρ' = rModel (.val (.bl tot)) (.val (dN most)) S [] .none ∧ ∃ k : Nat, d = dN k ∧ k < most) (draw_WP (n := most) rfl rfl (by omega) (by omega)) ?_
          rintro _ _ ⟨rfl, k, rfl, hk⟩
          have e : addO (.int 1) (dN k) = some (dN (1 + k)) := by
            rw [addO_int]; congr 2
          rw [e, optE_sm]
          exact ⟨⟨_, _, rfl, rfl, 1 + k, rfl, by omega, by omega⟩⟩
        · rintro _ _ ⟨rfl, n, rfl, hn⟩
          rw [eNil_s, bindE_k]
          exact ⟨⟨_, _, rfl, rfl, n, rfl, hn⟩⟩
      · rintro _ _ ⟨rfl, n, rfl, hn⟩
        exact ⟨⟨_, _, rfl, rfl, n, rfl, hn⟩⟩
    · rintro _ ⟨n, rfl, n1, n2⟩
      refine ⟨rfl, (s_law_names n2).mono ?_⟩
      rintro _ ⟨l, rfl, hl, ho⟩
      exact ⟨_, rfl, l, rfl, by omega, by omega, ho⟩
  · rintro _ _ ⟨rfl, l, rfl, h⟩
    rw [itemsD_lst, optE_sm]
    exact ⟨⟨_, _, rfl, rfl, l, rfl, h⟩⟩
theorem s_law_model {most : Nat} {tot : Bool} (h1 : 1 ≤ most) (h2 : most ≤ 4) :
    WP (m_law_model [.wld 0, .bl tot, dN most]) fun r => ∃ S st ms, r = .ok (dModel S st ms) ∧ 1 ≤ S ∧ S ≤ 8 ∧ st < S ∧ kindOk S ms ∧ ∀ p ∈ ms, methSorted p.2 := by
  unfold m_law_model
  refine (WP_runD (Q := fun r => ∃ S st ms, r = .ok (dModel S st ms) ∧ 1 ≤ S ∧ S ≤ 8 ∧ st < S ∧ kindOk S ms ∧ ∀ p ∈ ms, methSorted p.2) ?_).mono fun _ h => h
  have e0 : startR 6 [.wld 0, .bl tot, dN most] = [.val (.wld 0), .val (.bl tot), .val (dN most), .none, .none, .none] := rfl
  rw [e0]
  refine WP_seq _ (set_WP (P := fun d => ∃ k : Nat, d = dN k ∧ k ∈ [1, 2, 2, 3, 4, 8]) (pick_WP (ns := [1, 2, 2, 3, 4, 8]) (by simp [sz_val]) rfl rfl (by simp) (by simp))) ?_
  rintro _ ⟨_, rfl, S, rfl, hS⟩
  have hS1 : 1 ≤ S ∧ S ≤ 8 := by simp at hS; omega
  have e2 : sNew 4 eDctK (([.val (.wld 0), .val (.bl tot), .val (dN most), .none, .none, .none] : Rho).set 3 (.val (dN S))) = .ret (.nx (rModel (.val (.bl tot)) (.val (dN most)) S [] .none)) := by simp [rModel]
  refine WP_seq1 e2 (WP_seq (fun ρ' => ∃ ms s5, ρ' = rModel (.val (.bl tot)) (.val (dN most)) S ms s5 ∧ kindOk S ms ∧ ∀ p ∈ ms, methSorted p.2) ?_ ?_)
  · rw [sFor_s]
    refine WP_bindES _ (model_names h1 h2) ?_
    rintro _ _ ⟨rfl, l, rfl, l1, l2, lo⟩
    refine (forGo_WP (g := gSet 5) (body := p_law_model_1)
      (fun xs ρ => ∃ done rest s5, xs = (rest : List Str).map dS ∧ done.map (·.1) ++ rest = l ∧ ρ = rModel (.val (.bl tot)) (.val (dN most)) S done s5 ∧ (∀ p ∈ done, methOk S p.2 ∧ methSorted p.2)) ?_ _ _ ⟨[], l, _, rfl, rfl, rfl, by simp⟩).mono ?_
    · rintro x xs _ ⟨done, rest, s5, hx, hl, rfl, hd⟩
      cases rest with
      | nil => cases hx
      | cons n rest =>
        obtain ⟨rfl, rfl⟩ := List.cons.inj hx
        have hn : n ∉ done.map (·.1) := by
          have := lo.1
          rw [← hl, List.nodup_append] at this
          exact fun z => this.2.2 _ z _ List.mem_cons_self rfl
        have hl' : done.length ≤ 100 := by
          have := congrArg List.length hl
          simp at this; omega
        refine ⟨rModel (.val (.bl tot)) (.val (dN most)) S done (.val (dS n)), rfl, (model_turn (by omega) hS1.2 hn hl').mono ?_⟩
        rintro _ ⟨ρ', rfl, m, rfl, hm⟩
        refine ⟨_, rfl, done ++ [(n, m)], rest, _, rfl, by simpa using hl, rfl, ?_⟩
        intro p hp
        rcases List.mem_append.mp hp with z | z
        · exact hd p z
        · simp at z; rw [z]; exact hm
    · rintro _ ⟨ρ', rfl, done, rest, s5, hx, hl, rfl, hd⟩
      have hr : rest = [] := by cases rest with
        | nil => rfl
        | cons _ _ => cases hx
      subst hr
      rw [List.append_nil] at hl
      refine ⟨_, rfl, done, s5, rfl, ⟨?_, ?_, ?_, fun p hp => ⟨lo.2 _ (by rw [← hl]; exact List.mem_map.mpr ⟨p, hp, rfl⟩), (hd p hp).1⟩⟩, fun p hp => (hd p hp).2⟩
      · have := congrArg List.length hl; simp at this; omega
      · have := congrArg List.length hl; simp at this; omega
      · show (done.map (·.1)).Nodup
        rw [hl]; exact lo.1
  · rintro _ ⟨ms, s5, rfl, hk, hs⟩
    have hS0 : 0 < S := by omega
    have hS100 : S ≤ 100 := by omega
    have ed : WP (eCall m_law_draw 2 0 (fun ds _ => ds) (eCl1 (eCons (eV 0) (eCons (eV 3) eNil))) (rModel (.val (.bl tot)) (.val (dN most)) S ms s5)) fun r => ∃ d ρ', r = .ok (d, ρ') ∧ ρ' = rModel (.val (.bl tot)) (.val (dN most)) S ms s5 ∧ ∃ k : Nat, d = dN k ∧ k < S := draw_WP (n := S) rfl rfl hS100 hS0
    rw [sRet_s]
    refine WP_bindES (fun d ρ' => ∃ st, d = dModel S st ms ∧ st < S) ?_ ?_
    · rw [eFz_s]
      refine WP_bindE (fun p ρ' => ∃ st, p = (.lst, [dN S, dN st, dMap (dMeth .lst .lst .lst) ms]) ∧ st < S) ?_ ?_
      · rw [eLst_s, eCons_s]
        show WP (bindE (bindE (goV 3 _ (some (.val (dN S)))) _) _) _
        rw [goV_val, bindE_k]
        refine WP_bindE (fun ds ρ' => ∃ st, ds = [dN S, dN st, dMap (dMeth .lst .lst .lst) ms] ∧ st < S) ?_ ?_
        · refine WP_bindE (fun ds ρ' => ∃ st, ds = [dN st, dMap (dMeth .lst .lst .lst) ms] ∧ st < S) ?_ ?_
          · rw [eCons_s]
            refine WP_bindE _ ed ?_
            rintro _ _ ⟨rfl, st, rfl, hst⟩
            have e4 : eCons (eV 4) eNil (rModel (.val (.bl tot)) (.val (dN most)) S ms s5) = .ret (.ok ([dMap (dMeth .lst .lst .lst) ms], (rModel (.val (.bl tot)) (.val (dN most)) S ms s5).set 4 (.val (dMap (dMeth .lst .lst .lst) ms)))) := by
              simp [rModel, dMap]
            rw [e4, bindE_k]
            exact ⟨⟨_, _, rfl, st, rfl, hst⟩⟩
          · rintro _ _ ⟨st, rfl, hst⟩
            exact ⟨⟨_, _, rfl, st, rfl, hst⟩⟩
        · rintro _ _ ⟨st, rfl, hst⟩
          rw [if_pos (show ([dN S, dN st, dMap (dMeth .lst .lst .lst) ms] : List D).length ≤ sz from three_sz)]
          exact ⟨⟨_, _, rfl, st, rfl, hst⟩⟩
      · rintro _ _ ⟨st, rfl, hst⟩
        rw [whole_lst, if_pos rfl]
        exact ⟨⟨_, _, rfl, st, rfl, hst⟩⟩
    · rintro _ _ ⟨st, rfl, hst⟩
      exact ⟨⟨_, rfl, S, st, ms, rfl, hS1.1, hS1.2, hst, hk, hs⟩⟩
end DL

/-! S14: copies; the kind of a model. -/
namespace DL
open PySem PySem.Spec PyProof.Rows L2 PySem.W
section
variable (f : Nat) (b : Bool) (i : Int) (s : Str) (xs : List D)
theorem copied_n : m_law_copied (f + 1) [.non] = .ret (.ok .non) := by rw [m_law_copied, runD_s]; rfl
theorem copied_b : m_law_copied (f + 1) [.bl b] = .ret (.ok (.bl b)) := by rw [m_law_copied, runD_s]; rfl
theorem copied_i : m_law_copied (f + 1) [.int i] = .ret (.ok (.int i)) := by rw [m_law_copied, runD_s]; rfl
theorem copied_s : m_law_copied (f + 1) [.str s] = .ret (.ok (.str s)) := by rw [m_law_copied, runD_s]; rfl
theorem copied_l {d : D} {ρ' : Rho} (h : (eFz (eLc (eIt (eV 0)) [3] (gSet 3) eYes (p_law_copied_2 (m_law_copied f)))) [.val (.node .lst xs), .none, .none, .none] = .ret (.ok (d, ρ'))) : m_law_copied (f + 1) [.node .lst xs] = .ret (.ok d) := by
  rw [m_law_copied, runD_s, sSeq_s]
  have e1 : (sIf (eTst (eIsi isi_dict (eQ (qV 0)))) (sSeq (sNew 1 eDctK) (sSeq (sFor (eIt (eV 0)) (gSet 2) (p_law_copied_1 (m_law_copied f))) (sRet (eV 1)))) sPass) (startR 4 [.node .lst xs]) = .ret (.nx [.val (.node .lst xs), .none, .none, .none]) := rfl
  rw [e1, bindS_nx, sSeq_s, sIf_s]
  have e2 : (eTst (eIsi isi_list (eQ (qV 0)))) [.val (.node .lst xs), .none, .none, .none] = .ret (.ok (true, [.val (.node .lst xs), .none, .none, .none])) := rfl
  rw [e2, bindES_ok, if_pos rfl, sRet_s, h, bindES_ok]
  rfl
theorem copied_t {d : D} {ρ' : Rho} (h : (e1 tupleO (eFz (eLc (eIt (eV 0)) [3] (gSet 3) eYes (p_law_copied_3 (m_law_copied f))))) [.val (.node .tup xs), .none, .none, .none] = .ret (.ok (d, ρ'))) : m_law_copied (f + 1) [.node .tup xs] = .ret (.ok d) := by
  rw [m_law_copied, runD_s, sSeq_s]
  have e1 : (sIf (eTst (eIsi isi_dict (eQ (qV 0)))) (sSeq (sNew 1 eDctK) (sSeq (sFor (eIt (eV 0)) (gSet 2) (p_law_copied_1 (m_law_copied f))) (sRet (eV 1)))) sPass) (startR 4 [.node .tup xs]) = .ret (.nx [.val (.node .tup xs), .none, .none, .none]) := rfl
  rw [e1, bindS_nx, sSeq_s]
  have e2 : (sIf (eTst (eIsi isi_list (eQ (qV 0)))) (sRet (eFz (eLc (eIt (eV 0)) [3] (gSet 3) eYes (p_law_copied_2 (m_law_copied f))))) sPass) [.val (.node .tup xs), .none, .none, .none] = .ret (.nx [.val (.node .tup xs), .none, .none, .none]) := rfl
  rw [e2, bindS_nx, sSeq_s, sIf_s]
  have e3 : (eTst (eIsi isi_tuple (eQ (qV 0)))) [.val (.node .tup xs), .none, .none, .none] = .ret (.ok (true, [.val (.node .tup xs), .none, .none, .none])) := rfl
  rw [e3, bindES_ok, if_pos rfl, sRet_s, h, bindES_ok]
  rfl
end
theorem s_copied : ∀ (n fuel : Nat), n < fuel → ∀ (d : D), pln n d = true → m_law_copied fuel [d] = .ret (.ok d)
  | n, 0, hf, _, _ => by omega
  | n, fuel + 1, hf, d, hd => by
    cases d with
    | wld k => cases n <;> simp [pln] at hd
    | non => exact copied_n _
    | bl b => exact copied_b _ _
    | int i => exact copied_i _ _
    | str s => exact copied_s _ _
    | node t xs =>
      obtain ⟨n, rfl, h1, h2, h3⟩ := pln_node hd
      have ih : ∀ x ∈ xs, m_law_copied fuel [x] = .ret (.ok x) := fun x hx => s_copied n fuel (by omega) x (h2 x hx)
      cases t <;> simp [seqTag] at h1
      · have lc := eLc_map1 (it := eIt (eV 0)) (vs := [3]) (i := 3) (te := p_law_copied_2 (m_law_copied fuel)) (ρ := [.val (.node .lst xs), .none, .none, .none]) (ρ1 := [.val (.node .lst xs), .none, .none, .none]) (as := xs) (fun x => x) (fun x => x) (by simp) (by simp) h3 fun x hx => by
          simp [p_law_copied_2, wipeR, ih x hx]
        refine copied_l fuel xs (ρ' := [.val (.node .lst xs), .none, .none, .none]) ?_
        rw [eFz_s, lc]
        simp [wipeR]
      · have lc := eLc_map1 (it := eIt (eV 0)) (vs := [3]) (i := 3) (te := p_law_copied_3 (m_law_copied fuel)) (ρ := [.val (.node .tup xs), .none, .none, .none]) (ρ1 := [.val (.node .tup xs), .none, .none, .none]) (as := xs) (fun x => x) (fun x => x) (by simp) (by simp) h3 fun x hx => by
          simp [p_law_copied_3, wipeR, ih x hx]
        refine copied_t fuel xs (ρ' := [.val (.node .tup xs), .none, .none, .none]) ?_
        rw [e1_s, eFz_s, lc]
        simp [wipeR]
end DL

/-! S15: a dict copied; the kind of a model. -/
namespace DL
open PySem PySem.Spec PyProof.Rows L2 PySem.W
theorem copied_d (f : Nat) (ks : List Key) (vs : List D) {d : D} (h : (sSeq (sNew 1 eDctK) (sSeq (sFor (eIt (eV 0)) (gSet 2) (p_law_copied_1 (m_law_copied f))) (sRet (eV 1)))) [.val (.node (.dct ks) vs), .none, .none, .none] = .ret (.rt d)) : m_law_copied (f + 1) [.node (.dct ks) vs] = .ret (.ok d) := by
  rw [m_law_copied, runD_s, sSeq_s, sIf_s]
  have e1 : (eTst (eIsi isi_dict (eQ (qV 0)))) (startR 4 [.node (.dct ks) vs]) = .ret (.ok (true, [.val (.node (.dct ks) vs), .none, .none, .none])) := rfl
  rw [e1, bindES_ok, if_pos rfl, h]
  rfl
section
variable {α : Type} {f : α → D} {ms : List (Str × α)} {fuel : Nat}
theorem copied_loop (nt : NoTwin ms) (hc : ∀ p ∈ ms, m_law_copied fuel [f p.2] = .ret (.ok (f p.2))) : ∀ (ps done : List (Str × α)) (s2 : Slot), done ++ ps = ms → ms.length ≤ 100 →
    ∃ s2', forGo (gSet 2) (p_law_copied_1 (m_law_copied fuel)) (ps.map fun p => dS p.1) [.val (dMap f ms), .own (.dct (done.map fun p => kS p.1)) (done.map fun p => f p.2), s2, .none] = .ret (.nx [.val (dMap f ms), .own (.dct (ms.map fun p => kS p.1)) (ms.map fun p => f p.2), s2', .none])
  | [], done, s2, e, _ => ⟨s2, by rw [List.append_nil] at e; subst e; rfl⟩
  | p :: ps, done, s2, e, hl => by
    obtain ⟨s2', ih⟩ := copied_loop nt hc ps (done ++ [p]) (.val (dS p.1)) (by simpa using e) hl
    refine ⟨s2', ?_⟩
    have hp : p ∈ ms := by rw [← e]; simp
    have e1 : ixO (dMap f ms) (dS p.1) = some (f p.2) := lk_mem nt hp
    have e2 := hc p hp
    have hn : p.1 ∉ done.map (·.1) := by
      have : NoTwin (done ++ p :: ps) := by rw [e]; exact nt
      unfold NoTwin at this
      rw [List.map_append, List.map_cons, List.nodup_append] at this
      exact fun z => this.2.2 _ z _ List.mem_cons_self rfl
    obtain ⟨q1, q2⟩ := putMap (f := f) (x := p.2) hn
    have hz : (done.map fun p => kS p.1).length < sz := by
      have := congrArg List.length e
      rw [List.length_map, sz_val]; simp at this; omega
    rw [List.map_cons, forGo_set]
    generalize forGo (gSet 2) (p_law_copied_1 (m_law_copied fuel)) (ps.map fun p => dS p.1) = K at ih ⊢
    generalize dMap f ms = M at *
    rw [q1.symm, q2.symm] at ih
    simp at hz
    simp [p_law_copied_1, e1, e2, hz]
    simpa using ih
theorem s_copied_map (nt : NoTwin ms) (hl : ms.length ≤ 100) (hc : ∀ p ∈ ms, m_law_copied fuel [f p.2] = .ret (.ok (f p.2))) : m_law_copied (fuel + 1) [dMap f ms] = .ret (.ok (dMap f ms)) := by
  obtain ⟨s2', e⟩ := copied_loop nt hc ms [] .none (by simp) hl
  refine copied_d fuel _ _ ?_
  have ei : itemsD (dMap f ms) = some (ms.map fun p => dS p.1) := by
    unfold dMap; rw [itemsD_dct, keysMap, List.map_map]; rfl
  show (sSeq _ _) [.val (dMap f ms), .none, .none, .none] = .ret (.rt (dMap f ms))
  simp only [List.map_nil] at e
  have e2 : dMap f ms = .node (.dct (ms.map fun p => kS p.1)) (ms.map fun p => f p.2) := rfl
  simp [ei, e]
  exact e2.symm
end
theorem pln_dN (n k : Nat) : pln k (dN n) = true := by cases k <;> rfl
theorem pln_dA (p : Ans) (k : Nat) : pln (k + 1) (dA p) = true := by
  simp [pln, dA, seqTag, pln_dN, sz_val]
theorem pln_seq {α : Type} {g : α → D} {l : List α} {k : Nat} (t : Tag) (ht : seqTag t = true) (hl : l.length ≤ sz) (h : ∀ a ∈ l, pln k (g a) = true) : pln (k + 1) (.node t (l.map g)) = true := by
  simp only [pln, ht, Bool.true_and, Bool.and_eq_true, List.all_eq_true, List.mem_map, List.length_map, decide_eq_true_eq]
  exact ⟨by rintro _ ⟨a, ha, rfl⟩; exact h a ha, hl⟩
theorem sz_of {n : Nat} (h : n ≤ 100) : n ≤ sz := by rw [sz_val]; omega
theorem pln_meth {S : Nat} {m : Meth} (h : methOk S m) (hS : S ≤ 8) (t2 t1 t : Tag) (h2 : seqTag t2 = true) (h1 : seqTag t1 = true) (ht : seqTag t = true) : pln 5 (dMeth t2 t1 t m) = true := by
  obtain ⟨a1, a2, _, _, hl, hr⟩ := h
  have hrows : pln 4 (dRows t2 t1 t m.rows) = true := pln_seq t2 h2 (sz_of (by omega)) fun line hline =>
    pln_seq t1 h1 (sz_of (by have := (hr line hline).1; omega)) fun row hrow => pln_seq t ht (sz_of (by have := ((hr line hline).2 row hrow).1; omega)) fun p _ => pln_dA p 0
  simp [pln, dMeth, seqTag, pln_dN, hrows, sz_val]
theorem s_law_kind {S st : Nat} {ms : List (Str × Meth)} (h : kindOk S ms) (hS1 : 1 ≤ S) (hS : S ≤ 8) (hst : st < S) : m_law_kind [dModel S st ms] = .ret (.ok (dKind S st (sortK ms))) := by
  have e1 := s_copied_map (fuel := 7) (f := dMeth .lst .lst .lst) h.2.2.1 (by have := h.2.1; omega) fun p hp => s_copied 5 7 (by omega) _ (pln_meth (h.2.2.2 p hp).2 hS .lst .lst .lst rfl rfl rfl)
  have e2 := s_Kind_init h hS1 hS hst .lst .lst .lst rfl rfl rfl
  unfold dModel dKind
  simp only [Nat.reduceAdd] at e1
  generalize dMap (dMeth .lst .lst .lst) ms = M at *
  simp [m_law_kind, e1, e2]
end DL

/-! S16: rows of calls: the law's own walk. -/
namespace DL
open PySem PySem.Spec PyProof.Rows L2 PySem.W
section
variable {S st : Nat} {ms : List (Str × Meth)}
theorem model_row (nt : NoTwin ms) {p : Str × Meth} (hp : p ∈ ms) (hm : methOk S p.2) {s a : Nat} (hs : s < S) (ha : a < p.2.a) : ∃ line d1 d2,
    ixO (dMap (dMeth .lst .lst .lst) ms) (.str p.1) = some (dMeth .lst .lst .lst p.2) ∧ d1 = dRows .lst .lst .lst p.2.rows ∧ ixO d1 (dN s) = some d2 ∧ d2 = dLine .lst .lst line ∧ ixO d2 (dN a) = some (dRow .lst (rowAt p.2 s a)) := by
  obtain ⟨line, l1, l2, _, _⟩ := rowAt_get hm hs ha
  refine ⟨line, _, _, lk_mem nt hp, rfl, ?_, rfl, ?_⟩
  · simp [dRows, atI_nat, l1]
  · simp [dLine, atI_nat, l2]
theorem s_law_behind (nt : NoTwin ms) {p : Str × Meth} (hp : p ∈ ms) (hm : methOk S p.2) (hS : S ≤ 8) {a r : Nat} (ha : a < p.2.a) {states : List Nat} (hs : ∀ s ∈ states, s < S) :
    m_law_behind [dModel S st ms, .node .lst (states.map dN), dCall p.1 a r] = .ret (.ok (.node .lst ((behind p.2 a r states).map dN))) := by
  classical
  let I : List Nat → Rho → Prop := fun found ρ => inS S found ∧ ∃ s4 s5 s6, ρ = [.val (dModel S st ms), .val (.node .lst (states.map dN)), .val (dCall p.1 a r), .own .lst (found.map dN), s4, s5, s6]
  obtain ⟨ρ', ⟨hf, s4, s5, s6, rfl⟩, e⟩ := forGo_foldT (g := gSet 4) (body := p_law_behind_2) dN I (fun found s => (rowAt p.2 s a).foldl (step1 r) found) states [] [.val (dModel S st ms), .val (.node .lst (states.map dN)), .val (dCall p.1 a r), .own .lst [], .none, .none, .none] ⟨⟨.nil, by simp⟩, _, _, _, rfl⟩ (by
    rintro s hsm found ρ ⟨hf, s4, s5, s6, rfl⟩
    have hs' := hs s hsm
    obtain ⟨line, d1, d2, r1, rfl, r2, rfl, r3⟩ := model_row (S := S) nt hp hm hs' ha
    have ro := rowAt_ok hm hs' ha
    let J : List Nat → Rho → Prop := fun found ρ => inS S found ∧ ∃ s5 s6, ρ = [.val (dModel S st ms), .val (.node .lst (states.map dN)), .val (dCall p.1 a r), .own .lst (found.map dN), .val (dN s), s5, s6]
    obtain ⟨ρ', ⟨hf', s5', s6', rfl⟩, e'⟩ := forGo_foldT (g := gTupD 2 (gsCons (gSet 5) (gsCons (gSet 6) gsNil))) (body := p_law_behind_1) dA J (step1 r) (rowAt p.2 s a) found [.val (dModel S st ms), .val (.node .lst (states.map dN)), .val (dCall p.1 a r), .own .lst (found.map dN), .val (dN s), s5, s6] ⟨hf, _, _, rfl⟩ (by
      rintro ⟨b1, b2⟩ hb found ρ ⟨hf, s5, s6, rfl⟩
      have hb2 := (ro.2.2 _ hb).2
      have hl := inS_len hf
      have hz : found.length < sz := by rw [sz_val]; omega
      refine ⟨[.val (dModel S st ms), .val (.node .lst (states.map dN)), .val (dCall p.1 a r), .own .lst (found.map dN), .val (dN s), .val (dN b1), .val (dN b2)], [.val (dModel S st ms), .val (.node .lst (states.map dN)), .val (dCall p.1 a r), .own .lst ((step1 r found (b1, b2)).map dN), .val (dN s), .val (dN b1), .val (dN b2)], by simp [dA], ?_, step1_in hf hb2, _, _, rfl⟩
      have e1 := eqO_N b1 r
      have e2 := notInO_N b2 found .lst rfl
      have ec : ixO (dCall p.1 a r) (.int 2) = some (dN r) := rfl
      generalize dCall p.1 a r = C at *
      unfold step1
      by_cases hr : b1 = r
      · by_cases hn : b2 ∈ found
        · simp only [hr, hn, decide_true] at e1 e2
          simp [p_law_behind_1, ec, e1, e2, hr, hn]
        · simp only [hr, hn, decide_true, decide_false] at e1 e2
          simp [p_law_behind_1, ec, e1, e2, hr, hn, hz]
      · simp only [hr, decide_false] at e1
        simp [p_law_behind_1, ec, e1, hr])
    refine ⟨_, [.val (dModel S st ms), .val (.node .lst (states.map dN)), .val (dCall p.1 a r), .own .lst (((rowAt p.2 s a).foldl (step1 r) found).map dN), .val (dN s), s5', s6'], rfl, ?_, hf', _, s5', s6', rfl⟩
    have i0 : ixO (dModel S st ms) (.int 2) = some (dMap (dMeth .lst .lst .lst) ms) := rfl
    have i1 : ixO (dCall p.1 a r) (.int 0) = some (.str p.1) := rfl
    have i2 : ixO (dCall p.1 a r) (.int 1) = some (dN a) := rfl
    have i3 : ixO (dMeth .lst .lst .lst p.2) (.int 2) = some (dRows .lst .lst .lst p.2.rows) := rfl
    have i4 : itemsD (dRow .lst (rowAt p.2 s a)) = some ((rowAt p.2 s a).map dA) := rfl
    generalize dCall p.1 a r = C at *
    generalize dModel S st ms = N at *
    generalize dMap (dMeth .lst .lst .lst) ms = M at *
    generalize dMeth .lst .lst .lst p.2 = E at *
    generalize dRows .lst .lst .lst p.2.rows = G at *
    generalize dLine .lst .lst line = L at *
    generalize dRow .lst (rowAt p.2 s a) = W at *
    simp [p_law_behind_2, i0, i1, i2, i3, i4, r1, r2, r3]
    exact e')
  have hz : (behindF p.2 a r states).length ≤ sz := by rw [sz_val]; have := inS_len hf; simp only [behindF]; omega
  have e1 := sortO_N (behindF p.2 a r states) hz
  have e3 : behindF p.2 a r states = states.foldl (fun found s => (rowAt p.2 s a).foldl (step1 r) found) [] := rfl
  rw [← e3] at e
  generalize dCall p.1 a r = C at *
  generalize dModel S st ms = N at *
  simp [m_law_behind, e, e1, sz_val]
  rfl
end
end DL

/-! S17: told calls. -/
namespace DL
open PySem PySem.Spec PyProof.Rows L2 PySem.W
section
variable {S st : Nat} {ms : List (Str × Meth)}
/-- a call that is told well -/
theorem s_told (nt : NoTwin ms) {p : Str × Meth} (hp : p ∈ ms) {a r : Int} {t : Tag} (ht : t = .lst ∨ t = .tup) :
    m_is_told_call [dKind S st ms, .node t [.str p.1, .int a, .int r]] = .ret (.ok (.bl (decide (0 ≤ a) && decide (a < p.2.a) && decide (0 ≤ r) && decide (r < p.2.r)))) := by
  have e1 := s_contains (S := S) (st := st) (ms := ms) p.1
  have e2 := s_arguments (S := S) (st := st) nt hp
  have e3 := s_results (S := S) (st := st) nt hp
  have hm : p.1 ∈ ms.map (·.1) := List.mem_map_of_mem hp
  simp only [hm, decide_true] at e1
  simp only [dKind] at e1 e2 e3 ⊢
  generalize dMap dMT ms = M at *
  have f1 : (a ≤ (p.2.a : Int) - 1) ↔ a < p.2.a := by omega
  have f2 : (r ≤ (p.2.r : Int) - 1) ↔ r < p.2.r := by omega
  rcases ht with rfl | rfl
  · simp [m_is_told_call, e1, e2, e3, f1, f2]
    by_cases h1 : 0 ≤ a <;> by_cases h2 : a < p.2.a <;> simp [h1, h2] <;> omega
  · simp [m_is_told_call, e1, e2, e3, f1, f2]
    by_cases h1 : 0 ≤ a <;> by_cases h2 : a < p.2.a <;> simp [h1, h2] <;> omega
theorem s_told_no_row {d : D} (h : m_is_row_of [d, .int 3, .int 3] = .ret (.ok (.bl false))) : m_is_told_call [dKind S st ms, d] = .ret (.ok (.bl false)) := by
  simp only [dKind]
  generalize dMap dMT ms = M at *
  simp [m_is_told_call, h]
theorem s_told_no_name {d : D} {k : Nat} (h : tyD d = some k) (hk : isi_str k = some false) (x y : D) : m_is_told_call [dKind S st ms, .node .tup [d, x, y]] = .ret (.ok (.bl false)) := by
  have e1 := s_contains_no (S := S) (st := st) (ms := ms) h hk
  simp only [dKind] at e1 ⊢
  generalize dMap dMT ms = M at *
  simp [m_is_told_call, e1]
theorem s_told_other_name {n : Str} (h : n ∉ ms.map (·.1)) (x y : D) : m_is_told_call [dKind S st ms, .node .tup [.str n, x, y]] = .ret (.ok (.bl false)) := by
  have e1 := s_contains (S := S) (st := st) (ms := ms) n
  simp only [h, decide_false] at e1
  simp only [dKind] at e1 ⊢
  generalize dMap dMT ms = M at *
  simp [m_is_told_call, e1]
theorem s_told_no_arg (nt : NoTwin ms) {p : Str × Meth} (hp : p ∈ ms) {d : D} (hd : m_is_integer [d] = .ret (.ok (.bl false))) (y : D) : m_is_told_call [dKind S st ms, .node .tup [.str p.1, d, y]] = .ret (.ok (.bl false)) := by
  have e1 := s_contains (S := S) (st := st) (ms := ms) p.1
  have e2 := s_arguments (S := S) (st := st) nt hp
  have hm : p.1 ∈ ms.map (·.1) := List.mem_map_of_mem hp
  have e4 := s_is_between_no hd
  simp only [hm, decide_true] at e1
  simp only [dKind] at e1 e2 ⊢
  generalize dMap dMT ms = M at *
  simp [m_is_told_call, e1, e2, e4]
theorem s_told_no_res (nt : NoTwin ms) {p : Str × Meth} (hp : p ∈ ms) (a : Int) {d : D} (hd : m_is_integer [d] = .ret (.ok (.bl false))) : m_is_told_call [dKind S st ms, .node .tup [.str p.1, .int a, d]] = .ret (.ok (.bl false)) := by
  have e1 := s_contains (S := S) (st := st) (ms := ms) p.1
  have e2 := s_arguments (S := S) (st := st) nt hp
  have e3 := s_results (S := S) (st := st) nt hp
  have hm : p.1 ∈ ms.map (·.1) := List.mem_map_of_mem hp
  have e4 := s_is_between_no hd
  simp only [hm, decide_true] at e1
  simp only [dKind] at e1 e2 e3 ⊢
  generalize dMap dMT ms = M at *
  simp [m_is_told_call, e1, e2, e3, e4]
end
end DL

/-! SV: what holds of all ends, carried along: the rest of a run stands behind as one function. -/
namespace DL
open PySem PySem.Spec PyProof.Rows L2 PySem.W
section
variable {α β : Type}
def kB (f : α → M β) (Q : β → Prop) (a : α) : Prop := WP (f a) Q
def kE (f : α → Rho → M (ER β)) (Q : ER β → Prop) : ER α → Prop
  | .ok p => WP (f p.1 p.2) Q
  | .error e => Q (.error e)
def kN (f : α → Rho → M (ER β)) (Q : ER β → Prop) : ER α → Prop
  | .ok p => WP (f p.1 p.2) Q
  | .error e => False
def kES (f : α → Rho → M SR) (Q : SR → Prop) : ER α → Prop
  | .ok p => WP (f p.1 p.2) Q
  | .error e => Q (.ex e.1 e.2)
def kSq (f : Rho → M SR) (Q : SR → Prop) : SR → Prop
  | .nx ρ => WP (f ρ) Q
  | .rt d => Q (.rt d)
  | .bk ρ => Q (.bk ρ)
  | .ct ρ => Q (.ct ρ)
  | .ex e ρ => Q (.ex e ρ)
def kC (ρ : Rho) (Q : ER D → Prop) : Except Err D → Prop
  | .ok d => Q (.ok (d, ρ))
  | .error e => Q (.error (e, ρ))
def kD (Q : Except Err D → Prop) : SR → Prop
  | .nx _ => Q (.ok .non)
  | .rt d => Q (.ok d)
  | .ex e _ => Q (.error e)
  | .bk _ => False
  | .ct _ => False
/-- behind a turn of a for: J: the loop goes on -/
def kF (J : Rho → Prop) (Q : SR → Prop) : SR → Prop
  | .nx ρ => J ρ
  | .ct ρ => J ρ
  | .bk ρ => Q (.nx ρ)
  | .rt d => Q (.rt d)
  | .ex e ρ => Q (.ex e ρ)
/-- behind an item of a comprehension -/
def kL (vs : List Nat) (ρ0 : Rho) (P : D → Prop) : ER D → Prop
  | .ok p => wipeR p.2 vs = ρ0 ∧ P p.1
  | .error _ => False
/-- the suite of a try: its exceptions go to the handlers -/
def kT (hs : List Hm) (Q : SR → Prop) : SR → Prop
  | .ex e ρ => WP (tryGo hs e ρ) Q
  | .nx ρ => Q (.nx ρ)
  | .rt d => Q (.rt d)
  | .bk ρ => Q (.bk ρ)
  | .ct ρ => Q (.ct ρ)
variable {f : α → Rho → M (ER β)} {Q : ER β → Prop} {a : α} {ρ : Rho} {e : Err × Rho}
@[simp] theorem kE_ok : kE f Q (.ok (a, ρ)) = WP (f a ρ) Q := rfl
@[simp] theorem kE_err : kE f Q (.error e) = Q (.error e) := rfl
@[simp] theorem kN_ok : kN f Q (.ok (a, ρ)) = WP (f a ρ) Q := rfl
@[simp] theorem kN_err : kN f Q (.error e) = False := rfl
end
section
variable {α β : Type} {f : α → Rho → M SR} {Q : SR → Prop} {a : α} {ρ : Rho} {e : Err × Rho} {g : Rho → M SR} {d : D} {er : Err} {R : ER D → Prop} {T : Except Err D → Prop} {J : Rho → Prop} {vs : List Nat} {ρ0 : Rho} {P : D → Prop} {hs : List Hm}
@[simp] theorem kES_ok : kES f Q (.ok (a, ρ)) = WP (f a ρ) Q := rfl
@[simp] theorem kES_err : kES f Q (.error e) = Q (.ex e.1 e.2) := rfl
@[simp] theorem kSq_nx : kSq g Q (.nx ρ) = WP (g ρ) Q := rfl
@[simp] theorem kSq_rt : kSq g Q (.rt d) = Q (.rt d) := rfl
@[simp] theorem kSq_bk : kSq g Q (.bk ρ) = Q (.bk ρ) := rfl
@[simp] theorem kSq_ct : kSq g Q (.ct ρ) = Q (.ct ρ) := rfl
@[simp] theorem kSq_ex : kSq g Q (.ex er ρ) = Q (.ex er ρ) := rfl
@[simp] theorem kC_ok : kC ρ R (.ok d) = R (.ok (d, ρ)) := rfl
@[simp] theorem kC_err : kC ρ R (.error er) = R (.error (er, ρ)) := rfl
@[simp] theorem kD_nx : kD T (.nx ρ) = T (.ok .non) := rfl
@[simp] theorem kD_rt : kD T (.rt d) = T (.ok d) := rfl
@[simp] theorem kD_ex : kD T (.ex er ρ) = T (.error er) := rfl
@[simp] theorem kF_nx : kF J Q (.nx ρ) = J ρ := rfl
@[simp] theorem kF_ct : kF J Q (.ct ρ) = J ρ := rfl
@[simp] theorem kF_bk : kF J Q (.bk ρ) = Q (.nx ρ) := rfl
@[simp] theorem kF_rt : kF J Q (.rt d) = Q (.rt d) := rfl
@[simp] theorem kF_ex : kF J Q (.ex er ρ) = Q (.ex er ρ) := rfl
@[simp] theorem kL_ok : kL vs ρ0 P (.ok (d, ρ)) = (wipeR ρ vs = ρ0 ∧ P d) := rfl
@[simp] theorem kT_ex : kT hs Q (.ex er ρ) = WP (tryGo hs er ρ) Q := rfl
@[simp] theorem kT_nx : kT hs Q (.nx ρ) = Q (.nx ρ) := rfl
@[simp] theorem kT_rt : kT hs Q (.rt d) = Q (.rt d) := rfl
@[simp] theorem kT_bk : kT hs Q (.bk ρ) = Q (.bk ρ) := rfl
@[simp] theorem kT_ct : kT hs Q (.ct ρ) = Q (.ct ρ) := rfl
end
section
variable {α β : Type}
@[simp] theorem V_ret {a : α} {Q : α → Prop} : WP (.ret a) Q ↔ Q a := ⟨fun h => h.go, fun h => ⟨h⟩⟩
@[simp] theorem V_stuck {Q : α → Prop} : WP (.stuck : M α) Q ↔ False := ⟨fun h => h.go, fun h => h.elim⟩
@[simp] theorem V_draw {n : Int} {k : Int → M α} {Q : α → Prop} : WP (.draw n k) Q ↔ 0 < n ∧ ∀ r, 0 ≤ r → r < n → WP (k r) Q :=
  ⟨fun h => ⟨h.go.1, fun r a b => ⟨h.go.2 r a b⟩⟩, fun h => WP_draw h.1 h.2⟩
theorem V_bind {m : M α} {f : α → M β} {Q : β → Prop} : WP (m.bind f) Q ↔ WP m (kB f Q) :=
  ⟨fun h => ⟨M.wp_mono (fun a q => ⟨q⟩) (M.wp_bind.mp h.go)⟩, fun h => WP_bind h⟩
theorem WP.iff {m : M α} {P Q : α → Prop} (h : ∀ a, P a ↔ Q a) : WP m P ↔ WP m Q := ⟨fun x => x.mono fun a => (h a).mp, fun x => x.mono fun a => (h a).mpr⟩
@[simp] theorem V_bindE {m : M (ER α)} {f : α → Rho → M (ER β)} {Q : ER β → Prop} : WP (bindE m f) Q ↔ WP m (kE f Q) :=
  V_bind.trans (WP.iff fun r => by cases r <;> first | exact V_ret | exact Iff.rfl)
@[simp] theorem V_bindN {m : M (ER α)} {f : α → Rho → M (ER β)} {Q : ER β → Prop} : WP (bindN m f) Q ↔ WP m (kN f Q) :=
  V_bind.trans (WP.iff fun r => by cases r <;> first | exact V_stuck | exact Iff.rfl)
@[simp] theorem V_bindES {m : M (ER α)} {f : α → Rho → M SR} {Q : SR → Prop} : WP (bindES m f) Q ↔ WP m (kES f Q) :=
  V_bind.trans (WP.iff fun r => by cases r <;> first | exact V_ret | exact Iff.rfl)
@[simp] theorem V_bindS {m : M SR} {f : Rho → M SR} {Q : SR → Prop} : WP (bindS m f) Q ↔ WP m (kSq f Q) :=
  V_bind.trans (WP.iff fun r => by cases r <;> first | exact V_ret | exact Iff.rfl)
theorem V_seq {m n : SM} {ρ : Rho} {Q : SR → Prop} : WP (sSeq m n ρ) Q ↔ WP (m ρ) (kSq n Q) := V_bindS
@[simp] theorem V_callM {m : M (Except Err D)} {ρ : Rho} {Q : ER D → Prop} : WP (callM m ρ) Q ↔ WP m (kC ρ Q) := by
  rw [callM_eq]
  exact V_bind.trans (WP.iff fun r => by cases r <;> exact V_ret)
theorem V_runD {n : Nat} {m : SM} {ds : List D} {Q : Except Err D → Prop} : WP (runD n m ds) Q ↔ WP (m (startR n ds)) (kD Q) := by
  rw [runD_s]
  exact V_bind.trans (WP.iff fun r => by cases r <;> first | exact V_ret | exact V_stuck)
@[simp] theorem V_outD {m : M SR} {Q : Except Err D → Prop} : WP (m.bind outD) Q ↔ WP m (kD Q) :=
  V_bind.trans (WP.iff fun r => by cases r <;> first | exact V_ret | exact V_stuck)
theorem V_ite {c : Prop} [Decidable c] {a b : M α} {Q : α → Prop} : WP (if c then a else b) Q ↔ (c → WP a Q) ∧ (¬c → WP b Q) := by
  by_cases h : c <;> simp [h]
@[simp] theorem V_try {mb : SM} {hs : List Hm} {ρ : Rho} {Q : SR → Prop} : WP (sTry mb hs ρ) Q ↔ WP (mb ρ) (kT hs Q) :=
  V_bind.trans (WP.iff fun r => by cases r <;> first | exact V_ret | exact Iff.rfl)
/-- a run with one answer alone -/
theorem WP.leaf {P Q : α → Prop} : ∀ {m : M α}, m.wp P → m.wp Q → ∃ a, P a ∧ Q a
  | .ret a, p, q => ⟨a, p, q⟩
  | .stuck, p, _ => p.elim
  | .draw n k, p, q => WP.leaf (m := k 0) (p.2 0 (by omega) p.1) (q.2 0 (by omega) q.1)
theorem V_iff {m : M α} {a : α} (h : ∀ Q : α → Prop, Q a → WP m Q) {Q : α → Prop} : WP m Q ↔ Q a := by
  refine ⟨fun q => ?_, h Q⟩
  obtain ⟨b, rfl, q⟩ := WP.leaf (h (fun b => b = a) rfl).go q.go
  exact q
theorem V_of_eq {m : M α} {a : α} (h : m = .ret a) {Q : α → Prop} : WP m Q ↔ Q a := by rw [h]; exact V_ret
end
theorem V_for {β : Type} {g : GM} {body : SM} (k : β → D) (I : List β → Rho → Prop) {bs : List β} {ρ : Rho} {Q : SR → Prop} (h0 : I [] ρ)
    (hs : ∀ done b rest ρ, bs = done ++ b :: rest → I done ρ → ∃ ρ1, g (k b) ρ = some ρ1 ∧ WP (body ρ1) (kF (I (done ++ [b])) Q))
    (h1 : ∀ ρ', I bs ρ' → Q (.nx ρ')) : WP (forGo g body (bs.map k) ρ) Q := by
  have key : ∀ (rest done : List β) (ρ : Rho), bs = done ++ rest → I done ρ → WP (forGo g body (rest.map k) ρ) Q := by
    intro rest
    induction rest with
    | nil =>
      intro done ρ e i
      rw [List.append_nil] at e
      rw [List.map_nil, forGo_nil]
      exact ⟨h1 ρ (e ▸ i)⟩
    | cons b rest ih =>
      intro done ρ e i
      obtain ⟨ρ1, e1, e2⟩ := hs done b rest ρ e i
      rw [List.map_cons, forGo_cons, e1]
      refine WP_bind (e2.mono ?_)
      intro r hr
      cases r with
      | nx ρ2 => exact ih (done ++ [b]) ρ2 (by simp [e]) hr
      | ct ρ2 => exact ih (done ++ [b]) ρ2 (by simp [e]) hr
      | bk ρ2 => exact ⟨hr⟩
      | rt d => exact ⟨hr⟩
      | ex e ρ => exact ⟨hr⟩
  exact key bs [] ρ rfl h0
/-- a for whose data do not matter -/
theorem V_forD {g : GM} {body : SM} (I : List D → Rho → Prop) {bs : List D} {ρ : Rho} {Q : SR → Prop} (h0 : I [] ρ)
    (hs : ∀ done b rest ρ, bs = done ++ b :: rest → I done ρ → ∃ ρ1, g b ρ = some ρ1 ∧ WP (body ρ1) (kF (I (done ++ [b])) Q))
    (h1 : ∀ ρ', I bs ρ' → Q (.nx ρ')) : WP (forGo g body bs ρ) Q := by
  have := V_for (fun d => d) I (g := g) (body := body) (bs := bs) (Q := Q) h0 hs h1
  rwa [List.map_id'] at this
inductive All2 {α β : Type} (P : α → β → Prop) : List α → List β → Prop
  | nil : All2 P [] []
  | cons {a b as bs} : P a b → All2 P as bs → All2 P (a :: as) (b :: bs)
theorem All2.length {α β : Type} {P : α → β → Prop} : ∀ {as : List α} {bs : List β}, All2 P as bs → as.length = bs.length
  | _, _, .nil => rfl
  | _, _, .cons _ h => by simp [h.length]
theorem All2.mem {α β : Type} {P : α → β → Prop} : ∀ {as : List α} {bs : List β}, All2 P as bs → ∀ b ∈ bs, ∃ a ∈ as, P a b
  | _, _, .nil, b, h => by cases h
  | _, _, .cons p h, b, hb => by
    rcases List.mem_cons.mp hb with rfl | hb
    · exact ⟨_, List.mem_cons_self, p⟩
    · obtain ⟨a, h1, h2⟩ := h.mem b hb
      exact ⟨a, List.mem_cons_of_mem _ h1, h2⟩
/-- the parts are told by data of a type of its own -/
theorem All2.typed {α γ : Type} {R : α → γ → Prop} {k : γ → D} : ∀ {as : List α} {ds : List D}, All2 (fun a d => ∃ c, d = k c ∧ R a c) as ds → ∃ cs, ds = cs.map k ∧ All2 R as cs
  | _, _, .nil => ⟨[], rfl, .nil⟩
  | _, _, .cons ⟨c, e, r⟩ h => by
    obtain ⟨cs, e', r'⟩ := h.typed
    exact ⟨c :: cs, by rw [e, e']; rfl, .cons r r'⟩
/-- the items of a comprehension without a test -/
theorem V_lc {β : Type} {vs : List Nat} {g : GM} {te : EM D} {ρ0 : Rho} (k : β → D) (P : β → D → Prop) {bs : List β} {ρ : Rho} {Q : ER (List D) → Prop} (h0 : wipeR ρ vs = ρ0)
    (hs : ∀ b ∈ bs, ∃ ρ1, g (k b) ρ0 = some ρ1 ∧ WP (te ρ1) (kL vs ρ0 (P b)))
    (h1 : ∀ ys ρ', wipeR ρ' vs = ρ0 → All2 P bs ys → Q (.ok (ys, ρ'))) : WP (lcGo vs g eYes te (bs.map k) ρ) Q := by
  induction bs generalizing ρ Q with
  | nil =>
    rw [List.map_nil, lcGo_nil]
    exact ⟨h1 [] ρ h0 .nil⟩
  | cons b bs ih =>
    obtain ⟨ρ1, e1, e2⟩ := hs b List.mem_cons_self
    rw [List.map_cons, lcGo_cons, h0, e1]
    simp only [eYes, retE_def, bindN_ok, if_true]
    rw [V_bindN]
    refine e2.mono ?_
    intro r hr
    cases r with
    | error e => exact hr.elim
    | ok p =>
      obtain ⟨q1, q2⟩ := hr
      show WP (bindE _ _) Q
      rw [V_bindE]
      refine ih q1 (fun c hc => hs c (List.mem_cons_of_mem _ hc)) fun ys ρ' w a => ?_
      exact ⟨h1 (p.1 :: ys) ρ' w (.cons q2 a)⟩
/-- .. with one, all told before -/
theorem V_lcF {β : Type} {vs : List Nat} {g : GM} {tt : EM Bool} {te : EM D} {ρ0 : Rho} (k : β → D) (f : β → Option D) {bs : List β} {ρ : Rho} {Q : ER (List D) → Prop} (h0 : wipeR ρ vs = ρ0)
    (hs : ∀ b ∈ bs, LcTurn vs g tt te ρ0 (k b) (f b))
    (h1 : ∀ ρ', wipeR ρ' vs = ρ0 → Q (.ok (bs.filterMap f, ρ'))) : WP (lcGo vs g tt te (bs.map k) ρ) Q := by
  have key : ∀ (bs : List β) (ρ : Rho), wipeR ρ vs = ρ0 → (∀ b ∈ bs, LcTurn vs g tt te ρ0 (k b) (f b)) → ∃ ρ', wipeR ρ' vs = ρ0 ∧ lcGo vs g tt te (bs.map k) ρ = .ret (.ok (bs.filterMap f, ρ')) := by
    intro bs
    induction bs with
    | nil => exact fun ρ h0 _ => ⟨ρ, h0, rfl⟩
    | cons b bs ih =>
      intro ρ h0 h
      have hx := h b List.mem_cons_self
      rw [List.map_cons, lcGo_cons, h0]
      cases e : f b with
      | none =>
        rw [e] at hx
        obtain ⟨ρ1, ρ2, e1, e2, e3⟩ := hx
        obtain ⟨ρ', q1, q2⟩ := ih ρ2 e3 fun y hy => h y (List.mem_cons_of_mem _ hy)
        refine ⟨ρ', q1, ?_⟩
        rw [e1]
        simp [e2, q2, e]
      | some y =>
        rw [e] at hx
        obtain ⟨ρ1, ρ2, ρ3, e1, e2, e3, e4⟩ := hx
        obtain ⟨ρ', q1, q2⟩ := ih ρ3 e4 fun y hy => h y (List.mem_cons_of_mem _ hy)
        refine ⟨ρ', q1, ?_⟩
        rw [e1]
        simp [e2, e3, q2, e]
  obtain ⟨ρ', q1, q2⟩ := key bs ρ h0 hs
  rw [q2]
  exact ⟨h1 ρ' q1⟩
end DL
namespace DL
open PySem PySem.Spec PyProof.Rows L2 PySem.W
@[simp] theorem wipeR_nil (ρ : Rho) : wipeR ρ [] = ρ := rfl
@[simp] theorem wipeR_cons (ρ : Rho) (v : Nat) (vs : List Nat) : wipeR ρ (v :: vs) = (wipeR ρ vs).set v .none := rfl
@[simp] theorem eLc_s (it : EM (List D)) (vs : List Nat) (g : GM) (tt : EM Bool) (te : EM D) (ρ : Rho) : eLc it vs g tt te ρ = bindE (it ρ) fun ds ρ1 => if ds.length ≤ sz then bindE (lcGo vs g tt te ds ρ1) fun ys ρ2 => .ret (.ok ((.lst, ys), wipeR ρ2 vs)) else .stuck := rfl
end DL
namespace DL
open PySem PySem.Spec PyProof.Rows L2 PySem.W
@[simp] theorem sz0 : 0 < sz := by rw [sz_val]; omega
@[simp] theorem sz1 : 1 ≤ sz := by rw [sz_val]; omega
@[simp] theorem sz2 : 2 ≤ sz := by rw [sz_val]; omega
@[simp] theorem sz3 : 3 ≤ sz := by rw [sz_val]; omega
@[simp] theorem sz4 : 4 ≤ sz := by rw [sz_val]; omega
@[simp] theorem sz5 : 5 ≤ sz := by rw [sz_val]; omega
@[simp] theorem sz6 : 6 ≤ sz := by rw [sz_val]; omega
@[simp] theorem sz7 : 7 ≤ sz := by rw [sz_val]; omega
@[simp] theorem sz8 : 8 ≤ sz := by rw [sz_val]; omega
@[simp] theorem sz9 : 9 ≤ sz := by rw [sz_val]; omega
@[simp] theorem sz10 : 10 ≤ sz := by rw [sz_val]; omega
@[simp] theorem sz16 : 16 ≤ sz := by rw [sz_val]; omega
theorem sz_le {n : Nat} (h : n ≤ 100000) : n ≤ sz := by rw [sz_val]; omega
theorem sz_lt {n : Nat} (h : n ≤ 100000) : n < sz := by rw [sz_val]; omega
end DL

/-! S18: reached. -/
namespace DL
open PySem PySem.Spec PyProof.Rows L2 PySem.W
theorem enD_zip : ∀ (ds : List D) (j : Nat), enD j ds = (ds.zipIdx j).map fun p => .node .tup [dN p.2, p.1]
  | [], j => rfl
  | d :: ds, j => by
    rw [enD, enD_zip ds (j + 1)]
    rfl
theorem zipIdx_at {α : Type} {ds : List α} {done rest : List (α × Nat)} {b : α × Nat} (h : ds.zipIdx = done ++ b :: rest) : ds[done.length]? = some b.1 ∧ b.2 = done.length := by
  have e : ds.zipIdx[done.length]? = some b := by rw [h]; simp
  rw [List.getElem?_zipIdx] at e
  simp only [Option.map_eq_some_iff] at e
  obtain ⟨a, e1, rfl⟩ := e
  exact ⟨e1, by simp⟩
structure Cal where
  t : Tag
  p : Str × Meth
  a : Nat
  r : Nat
def dCal (c : Cal) : D := dCallT c.t c.p.1 c.a c.r
def calOk (ms : List (Str × Meth)) (c : Cal) : Prop := (c.t = .lst ∨ c.t = .tup) ∧ c.p ∈ ms ∧ c.a < c.p.2.a ∧ c.r < c.p.2.r
def reachedF (st : Nat) (cs : List Cal) : List Nat := cs.foldl (fun states c => behind c.p.2 c.a c.r states) [st]
theorem reachedF_snoc (st : Nat) (cs : List Cal) (c : Cal) : reachedF st (cs ++ [c]) = behind c.p.2 c.a c.r (reachedF st cs) := by simp [reachedF, List.foldl_append]
section
variable {S st : Nat} {ms : List (Str × Meth)}
def Told (S st : Nat) (ms : List (Str × Meth)) (d : D) (b : Bool) : Prop := m_is_told_call [dKind S st ms, d] = .ret (.ok (.bl b))
theorem told_cal (nt : NoTwin ms) {c : Cal} (h : calOk ms c) : Told S st ms (dCal c) true := by
  have := s_told (S := S) (st := st) nt h.2.1 (a := c.a) (r := c.r) h.1
  unfold Told dCal dCallT
  rw [this]
  have := h.2.2.1
  have := h.2.2.2
  simp; omega
theorem reached_in (hk : kindOk S ms) : ∀ {cs : List Cal} {states : List Nat}, (∀ c ∈ cs, calOk ms c) → (∀ s ∈ states, s < S) → ∀ s ∈ cs.foldl (fun states c => behind c.p.2 c.a c.r states) states, s < S
  | [], _, _, h => h
  | c :: cs, states, h, h' => reached_in hk (cs := cs) (fun x hx => h x (List.mem_cons_of_mem _ hx)) (behind_in (hk.2.2.2 _ (h c List.mem_cons_self).2.1).2 (h c List.mem_cons_self).2.2.1 h').2
theorem s_reached (hk : kindOk S ms) (hS : S ≤ 8) (hst : st < S) {cs : List Cal} (hc : ∀ c ∈ cs, calOk ms c) (hl : cs.length ≤ 60) {t : Tag} (ht : t = .lst ∨ t = .tup) {Q : Except Err D → Prop} :
    WP (m_reached [dKind S st ms, .node t (cs.map dCal)]) Q ↔ Q (.ok (.node .tup ((reachedF st cs).map dN))) := by
  refine V_iff fun Q q => ?_
  have hl' : (cs.length : Int) ≤ 60 := by omega
  have ek : enumO (.node t (cs.map dCal)) = some ((cs.map dCal).zipIdx.map fun p => .node .tup [dN p.2, p.1]) := by
    rcases ht with rfl | rfl <;> simp [enumO, enD_zip]
  have er : m_is_row_of [.node t (cs.map dCal), .int 0, .int 60] = .ret (.ok (.bl true)) := by
    rcases ht with rfl | rfl <;> simp <;> omega
  have ei : itemsD (.node t (cs.map dCal)) = some (cs.map dCal) := by rcases ht with rfl | rfl <;> rfl
  have ef : lkF (cf 33) [dN S, dN st, dMap dMT ms] z_start = some (dN st) := rfl
  have ek2 : dKind S st ms = .node (.obj 33) [dN S, dN st, dMap dMT ms] := rfl
  generalize hN : (D.node t (cs.map dCal)) = N at *
  simp [m_reached, er, ek]
  refine V_for _ (fun _ ρ => ∃ s2 s3 s4, ρ = [.val (dKind S st ms), .val N, s2, s3, s4]) ⟨_, _, _, rfl⟩ ?_ ?_
  · rintro done b rest _ e ⟨s2, s3, s4, rfl⟩
    have hb : b.1 ∈ cs.map dCal := by
      have := (zipIdx_at e).1
      exact List.mem_of_getElem? this
    obtain ⟨c, h1, h2⟩ := List.mem_map.mp hb
    have td := told_cal (S := S) (st := st) hk.2.2.1 (hc c h1)
    rw [h2] at td
    unfold Told at td
    refine ⟨_, rfl, ?_⟩
    simp [p_reached_1, td]
  · rintro _ ⟨s2, s3, s4, rfl⟩
    simp [ei, ek2]
    rw [← ek2]
    refine V_for _ (fun done ρ => ∃ s2 s3, ρ = [.val (dKind S st ms), .val N, s2, s3, .val (.node .tup ((reachedF st done).map dN))]) ⟨_, _, rfl⟩ ?_ ?_
    · rintro done c rest _ e ⟨s2, s3, rfl⟩
      have hm : c ∈ cs := by rw [e]; simp
      have hd : ∀ x ∈ done, calOk ms x := fun x hx => hc x (by rw [e]; simp [hx])
      have o := hc c hm
      have h1 := s_states_behind (S := S) (st := st) hk.2.2.1 o.2.1 (hk.2.2.2 _ o.2.1).2 hS (r := c.r) o.2.2.1 o.1 (states := reachedF st done) (reached_in hk hd (by simpa using hst))
      refine ⟨_, rfl, ?_⟩
      simp [p_reached_2, dCal, h1, reachedF_snoc]
    · rintro _ ⟨s2, s3, rfl⟩
      simpa using q
/-- the first wrong one tells its place -/
theorem s_reached_bad {ds pre post : List D} {d : D} (e : ds = pre ++ d :: post) (hp : ∀ x ∈ pre, Told S st ms x true) (hd : Told S st ms d false) (hl : ds.length ≤ 60) {t : Tag} (ht : t = .lst ∨ t = .tup) {Q : Except Err D → Prop} :
    WP (m_reached [dKind S st ms, .node t ds]) Q ↔ Q (.error ⟨9, [dN pre.length]⟩) := by
  refine V_iff fun Q q => ?_
  have ek : enumO (.node t ds) = some (ds.zipIdx.map fun p => .node .tup [dN p.2, p.1]) := by
    rcases ht with rfl | rfl <;> simp [enumO, enD_zip]
  have er : m_is_row_of [.node t ds, .int 0, .int 60] = .ret (.ok (.bl true)) := by
    rcases ht with rfl | rfl <;> simp <;> omega
  generalize hN : (D.node t ds) = N at *
  simp [m_reached, er, ek]
  refine V_for _ (fun done ρ => done.length ≤ pre.length ∧ ∃ s2 s3 s4, ρ = [.val (dKind S st ms), .val N, s2, s3, s4]) ⟨Nat.zero_le _, _, _, _, rfl⟩ ?_ ?_
  · rintro done b rest _ e' ⟨hn, s2, s3, s4, rfl⟩
    obtain ⟨z1, z2⟩ := zipIdx_at e'
    refine ⟨_, rfl, ?_⟩
    rcases Nat.lt_or_eq_of_le hn with h | h
    · have hb : b.1 ∈ pre := by
        rw [e, List.getElem?_append_left h] at z1
        exact List.mem_of_getElem? z1
      have td := hp _ hb
      unfold Told at td
      simp [p_reached_1, td]
      omega
    · have hb : b.1 = d := by
        rw [e, h, List.getElem?_append_right (Nat.le_refl _)] at z1
        simpa using z1.symm
      have td := hd
      unfold Told at td
      rw [z2, h]
      simp [p_reached_1, td, hb]
      exact q
  · rintro _ ⟨hn, s2, s3, s4, rfl⟩
    exfalso
    rw [e] at hn
    simp at hn
    omega
theorem s_reached_no {d : D} (h : m_is_row_of [d, .int 0, .int 60] = .ret (.ok (.bl false))) {Q : Except Err D → Prop} : WP (m_reached [dKind S st ms, d]) Q ↔ Q (.error ⟨9, [.int (-1)]⟩) := by
  refine V_iff fun Q q => ?_
  simpa [m_reached, h] using q
theorem s_law_reached (hk : kindOk S ms) (hS : S ≤ 8) (hst : st < S) {cs : List Cal} (hc : ∀ c ∈ cs, calOk ms c ∧ c.t = .tup) {Q : Except Err D → Prop} :
    WP (m_law_reached [dModel S st ms, .node .lst (cs.map dCal)]) Q ↔ Q (.ok (.node .lst ((reachedF st cs).map dN))) := by
  refine V_iff fun Q q => ?_
  have i1 : ixO (dModel S st ms) (.int 1) = some (dN st) := rfl
  generalize hN : dModel S st ms = N at *
  simp [m_law_reached, i1]
  refine V_for _ (fun done ρ => ∃ t s3, (t = Slot.val (.node .lst ((reachedF st done).map dN)) ∨ t = Slot.own .lst ((reachedF st done).map dN)) ∧ ρ = [.val N, .val (.node .lst (cs.map dCal)), t, s3]) ⟨_, _, .inr rfl, rfl⟩ ?_ ?_
  · rintro done c rest _ e ⟨t, s3, ht, rfl⟩
    have hm : c ∈ cs := by rw [e]; simp
    have hd : ∀ x ∈ done, calOk ms x := fun x hx => (hc x (by rw [e]; simp [hx])).1
    have o := (hc c hm).1
    have h1 := s_law_behind (S := S) (st := st) hk.2.2.1 o.2.1 (hk.2.2.2 _ o.2.1).2 hS (r := c.r) o.2.2.1 (states := reachedF st done) (reached_in hk hd (by simpa using hst))
    rw [hN] at h1
    have ed : dCal c = dCall c.p.1 c.a c.r := by rw [dCal, (hc c hm).2]
    refine ⟨_, rfl, ?_⟩
    rcases ht with rfl | rfl
    · simp [p_law_reached_1, ed, h1, reachedF_snoc]
    · simp [p_law_reached_1, ed, h1, reachedF_snoc]
  · rintro _ ⟨t, s3, ht, rfl⟩
    rcases ht with rfl | rfl <;> simpa using q
end
end DL

/-! S19: drawn calls. -/
namespace DL
open PySem PySem.Spec PyProof.Rows L2 PySem.W
@[simp] theorem V_ld {n : Int} (h : n ≤ 100) : m_law_draw [.wld 0, .int n] = .draw n fun r => .ret (.ok (.int r)) := by rw [s_draw, if_pos (by omega)]
theorem pick_at {α : Type} (f : α → D) (l : List α) {r : Int} (h0 : 0 ≤ r) (h1 : r < l.length) : ∃ a, a ∈ l ∧ atI (l.map f) r = some (f a) := by
  obtain ⟨k, rfl⟩ := Int.eq_ofNat_of_zero_le h0
  have hk : k < l.length := by omega
  exact ⟨l[k], List.getElem_mem hk, by rw [atI_nat]; simp [hk]⟩
section
variable {S st : Nat} {ms : List (Str × Meth)}
abbrev dML (m : Meth) : D := dMeth .lst .lst .lst m
theorem model_nm (hk : kindOk S ms) : ∃ keys names : List Str, listO (dMap dML ms) = some (.lst, keys.map dS) ∧ sortO (.node .lst (keys.map dS)) = some (.lst, names.map dS) ∧ names.length = ms.length ∧ (∀ n ∈ names, ∃ p ∈ ms, p.1 = n) := by
  refine ⟨ms.map (·.1), sortBy dS (ms.map (·.1)), ?_, sortO_S _ (by rw [List.length_map]; exact sz_le (by have := hk.2.1; omega)), by rw [sortBy_length, List.length_map], ?_⟩
  · show some (Tag.lst, (ms.map fun p => kS p.1).map dK') = _
    rw [keysMap]
  · intro n hn
    rw [sortBy_mem] at hn
    obtain ⟨p, h1, h2⟩ := List.mem_map.mp hn
    exact ⟨p, h1, h2⟩
theorem s_law_call (hk : kindOk S ms) : WP (m_law_call [.wld 0, dModel S st ms]) fun r => ∃ c, r = .ok (dCal c) ∧ calOk ms c ∧ c.t = .tup := by
  obtain ⟨keys, names, e1, e2, e3, e4⟩ := model_nm hk
  have i2 : ixO (dModel S st ms) (.int 2) = some (dMap dML ms) := rfl
  have n1 : 0 < names.length := by have := hk.1; omega
  have n2 : (names.length : Int) ≤ 100 := by have := hk.2.1; omega
  generalize hN : dModel S st ms = N at *
  simp -implicitDefEqProofs [m_law_call, i2, e1, e2, n2]
  refine ⟨n1, fun r h0 h1 => ?_⟩
  obtain ⟨n, hn, ea⟩ := pick_at dS names h0 h1
  obtain ⟨p, hp, rfl⟩ := e4 n hn
  have hm := (hk.2.2.2 p hp).2
  have em : ixO (dMap dML ms) (.str p.1) = some (dML p.2) := lk_mem hk.2.2.1 hp
  have a0 : ixO (dML p.2) (.int 0) = some (dN p.2.a) := rfl
  have a1 : ixO (dML p.2) (.int 1) = some (dN p.2.r) := rfl
  have b0 : (p.2.a : Int) ≤ 100 := by have := hm.2.1; omega
  have b1 : (p.2.r : Int) ≤ 100 := by have := hm.2.2.2.1; omega
  generalize dML p.2 = PM at *
  simp -implicitDefEqProofs [i2, ea, em, a0, a1, b0, b1]
  refine ⟨hm.1, fun a g0 g1 => ⟨hm.2.2.1, fun t t0 t1 => ?_⟩⟩
  obtain ⟨a, rfl⟩ := Int.eq_ofNat_of_zero_le g0
  obtain ⟨t, rfl⟩ := Int.eq_ofNat_of_zero_le t0
  exact ⟨⟨.tup, p, a, t⟩, rfl, ⟨.inr rfl, hp, by simpa using g1, by simpa using t1⟩, rfl⟩
end
end DL

/-! S20: drawn rows of calls. -/
namespace DL
open PySem PySem.Spec PyProof.Rows L2 PySem.W
@[simp] theorem V_addL (xs ys : List D) : addO (.node .lst xs) (.node .lst ys) = if xs.length + ys.length ≤ sz then some (.node .lst (xs ++ ys)) else none := rfl
section
variable {S st : Nat} {ms : List (Str × Meth)}
/-- behind one state: its answers -/
theorem calls_turn2 (hk : kindOk S ms) {c : Cal} (hc : calOk ms c) (ht : c.t = .tup) {s : Nat} (hs : s < S) {as : List Ans} (hl : as.length ≤ 1000) {N : D} (hN : dModel S st ms = N) {s0 s2 s3 s4 s5 s7 s9 : Slot}
    (h7 : s7 = .val (.node .lst (as.map dA)) ∨ s7 = .own .lst (as.map dA)) :
    p_law_calls_2 [s0, .val N, s2, s3, s4, s5, .val (dCal c), s7, .val (dN s), s9] = .ret (.nx [s0, .val N, s2, s3, s4, s5, .val (dCal c), .val (.node .lst ((as ++ rowAt c.p.2 s c.a).map dA)), .val (dN s), .none]) := by
  have hm := (hk.2.2.2 c.p hc.2.1).2
  obtain ⟨line, d1, d2, r1, rfl, r2, rfl, r3⟩ := model_row (S := S) hk.2.2.1 hc.2.1 hm hs hc.2.2.1
  have ro := rowAt_ok hm hs hc.2.2.1
  have i0 : ixO N (.int 2) = some (dMap (dMeth .lst .lst .lst) ms) := by rw [← hN]; rfl
  have i1 : ixO (dCal c) (.int 0) = some (.str c.p.1) := by rw [dCal, ht]; rfl
  have i2 : ixO (dCal c) (.int 1) = some (dN c.a) := by rw [dCal, ht]; rfl
  have i3 : ixO (dMeth .lst .lst .lst c.p.2) (.int 2) = some (dRows .lst .lst .lst c.p.2.rows) := rfl
  have i4 : itemsD (dRow .lst (rowAt c.p.2 s c.a)) = some ((rowAt c.p.2 s c.a).map dA) := rfl
  have lr : (rowAt c.p.2 s c.a).length ≤ 8 := ro.1
  have e : ∀ s7' : Slot, (eLc (eIt (eBin ixO (eBinQ ixO (eBinQ ixO (eBin ixO (eBinQ ixO (eQ (qV 1)) (qC (.int 2))) (eBinQ ixO (eQ (qV 6)) (qC (.int 0)))) (qC (.int 2))) (qV 8)) (eBinQ ixO (eQ (qV 6)) (qC (.int 1))))) [9] (gSet 9) eYes p_law_calls_1) [s0, .val N, s2, s3, s4, s5, .val (dCal c), s7', .val (dN s), s9] = .ret (.ok ((.lst, (rowAt c.p.2 s c.a).map dA), [s0, .val N, s2, s3, s4, s5, .val (dCal c), s7', .val (dN s), .none])) := by
    intro s7'
    refine eLc_map1 dA dA (by simp) (ρ1 := [s0, .val N, s2, s3, s4, s5, .val (dCal c), s7', .val (dN s), s9]) ?_ (sz_le (by omega)) ?_
    · generalize dCal c = C at *
      generalize dMap (dMeth .lst .lst .lst) ms = M at *
      generalize dMeth .lst .lst .lst c.p.2 = E at *
      generalize dRows .lst .lst .lst c.p.2.rows = G at *
      generalize dLine .lst .lst line = L at *
      generalize dRow .lst (rowAt c.p.2 s c.a) = W at *
      simp -implicitDefEqProofs [i0, i1, i2, i3, i4, r1, r2, r3]
    · intro a _
      generalize dA a = A
      simp -implicitDefEqProofs [p_law_calls_1]
  have hz : as.length + (rowAt c.p.2 s c.a).length ≤ sz := sz_le (by omega)
  rcases h7 with rfl | rfl
  · simp -implicitDefEqProofs [p_law_calls_2, e, hz, -eLc_s]
  · simp -implicitDefEqProofs [p_law_calls_2, e, hz, -eLc_s]
theorem calls_loop2 (hk : kindOk S ms) {c : Cal} (hc : calOk ms c) (ht : c.t = .tup) {states : List Nat} (hs : ∀ s ∈ states, s < S) (hl : states.length ≤ 12) {N : D} (hN : dModel S st ms = N) {s0 s2 s3 s4 s5 s8 s9 : Slot} {Q : SR → Prop}
    (q : ∀ (as : List Ans) s7 s8 s9, (∀ x ∈ as, x.1 < c.p.2.r) → as.length ≤ 100 → (s7 = .val (.node .lst (as.map dA)) ∨ s7 = .own .lst (as.map dA)) → Q (.nx [s0, .val N, s2, s3, s4, s5, .val (dCal c), s7, s8, s9])) :
    WP (forGo (gSet 8) p_law_calls_2 (states.map dN) [s0, .val N, s2, s3, s4, s5, .val (dCal c), .own .lst [], s8, s9]) Q := by
  refine V_for _ (fun done ρ => ∃ as s7 s8 s9, (∀ x ∈ as, x.1 < c.p.2.r) ∧ as.length ≤ 8 * done.length ∧ (s7 = .val (.node .lst (as.map dA)) ∨ s7 = .own .lst (as.map dA)) ∧ ρ = [s0, .val N, s2, s3, s4, s5, .val (dCal c), s7, s8, s9]) ⟨[], _, _, _, by simp, by simp, .inr rfl, rfl⟩ ?_ ?_
  · rintro done s rest _ e ⟨as, s7, s8, s9, h1, h2, h3, rfl⟩
    have hsl : done.length + 1 ≤ 12 := by rw [e] at hl; simp at hl; omega
    have hsS : s < S := hs s (by rw [e]; simp)
    have ro := rowAt_ok (hk.2.2.2 c.p hc.2.1).2 hsS hc.2.2.1
    refine ⟨_, rfl, ?_⟩
    have t := calls_turn2 (st := st) hk hc ht hsS (as := as) (by omega) hN (s0 := s0) (s2 := s2) (s3 := s3) (s4 := s4) (s5 := s5) (s9 := s9) h3
    simp -implicitDefEqProofs only [List.set_cons_succ, List.set_cons_zero]
    rw [t, V_ret]
    refine ⟨as ++ rowAt c.p.2 s c.a, _, _, _, ?_, ?_, .inl rfl, rfl⟩
    · intro x hx
      rcases List.mem_append.mp hx with z | z
      · exact h1 x z
      · exact (ro.2.2 x z).1
    · have := ro.1
      simp; omega
  · rintro _ ⟨as, s7, s8, s9, h1, h2, h3, rfl⟩
    exact q as s7 s8 s9 h1 (by omega) h3
def mkCal (c : Cal) (r : Nat) : Cal := { c with r := r }
theorem beh (hk : kindOk S ms) (hS : S ≤ 8) {N : D} (hN : dModel S st ms = N) {states : List Nat} (hs : inS S states) {c : Cal} (hc : calOk ms c) (ht : c.t = .tup) :
    m_law_behind [N, .node .lst (states.map dN), dCal c] = .ret (.ok (.node .lst ((behind c.p.2 c.a c.r states).map dN))) ∧ inS S (behind c.p.2 c.a c.r states) := by
  have ed : dCal c = dCall c.p.1 c.a c.r := by rw [dCal, ht]
  have hm := (hk.2.2.2 _ hc.2.1).2
  have b := s_law_behind (S := S) (st := st) hk.2.2.1 hc.2.1 hm hS (r := c.r) hc.2.2.1 hs.2
  rw [hN, ← ed] at b
  exact ⟨b, behind_in hm hc.2.2.1 hs.2⟩
theorem calls_turn (hk : kindOk S ms) (hS : S ≤ 8) (hst : st < S) {N : D} (hN : dModel S st ms = N) {s2 s5 s6 s7 s8 s9 : Slot} {states : List Nat} (hs : inS S states) {cs : List Cal} (hl : cs.length ≤ 1000) {s3 : Slot}
    (h3 : s3 = .val (.node .lst (states.map dN)) ∨ s3 = .own .lst (states.map dN)) {J : Rho → Prop} {Q : SR → Prop}
    (q : ∀ c states' s5 s6 s7 s8 s9, calOk ms c → c.t = .tup → inS S states' → J [.val (.wld 0), .val N, s2, .val (.node .lst (states'.map dN)), .own .lst ((cs ++ [c]).map dCal), s5, s6, s7, s8, s9]) :
    WP (p_law_calls_3 [.val (.wld 0), .val N, s2, s3, .own .lst (cs.map dCal), s5, s6, s7, s8, s9]) (kF J Q) := by
  have hsl : states.length ≤ 8 := Nat.le_trans (inS_len hs) hS
  have hz : cs.length < sz := sz_lt (by omega)
  have call := s_law_call (S := S) (st := st) hk
  rw [hN] at call
  simp -implicitDefEqProofs [p_law_calls_3]
  refine call.mono ?_
  rintro _ ⟨c, rfl, hc, ht⟩
  have i3 : itemsD (.node .lst (states.map dN)) = some (states.map dN) := rfl
  rcases h3 with rfl | rfl
  all_goals
    simp -implicitDefEqProofs
    refine calls_loop2 hk hc ht hs.2 (by omega) hN ?_
    intro as s7 s8 s9 h1 h2 h7
    have hlen : (as.length : Int) ≤ 100 := by omega
    have e7 : slV (some s7) = some (.node .lst (as.map dA)) := by rcases h7 with rfl | rfl <;> rfl
    simp -implicitDefEqProofs [e7]
    have f1 : ∀ (c' : Cal) (s5 s7 s8 s9 : Slot), calOk ms c' → c'.t = .tup → J [.val (.wld 0), .val N, s2, .val (.node .lst ((behind c'.p.2 c'.a c'.r states).map dN)), .own .lst (cs.map dCal ++ [dCal c']), s5, .val (dCal c'), s7, s8, s9] := by
      intro c' s5 s7 s8 s9 o1 o2
      have := q c' (behind c'.p.2 c'.a c'.r states) s5 (.val (dCal c')) s7 s8 s9 o1 o2 (beh hk hS hN hs o1 o2).2
      simpa using this
    have b0 := (beh hk hS hN hs hc ht).1
    have i1 : ixO (dCal c) (.int 0) = some (.str c.p.1) := by rw [dCal, ht]; rfl
    have i2 : ixO (dCal c) (.int 1) = some (dN c.a) := by rw [dCal, ht]; rfl
    by_cases h0 : 0 < as.length
    · simp -implicitDefEqProofs [h0]
      intro r r0 r1
      by_cases hr : 0 < r
      · rcases h7 with rfl | rfl
        all_goals
          simp -implicitDefEqProofs [hr, i1, i2, hlen]
          refine ⟨h0, fun r2 r3 r4 => ?_⟩
          obtain ⟨x, hx, ea⟩ := pick_at dA as r3 r4
          have ix : ixO (dA x) (.int 0) = some (dN x.1) := rfl
          have em : D.node .tup [.str c.p.1, dN c.a, dN x.1] = dCal (mkCal c x.1) := by rw [dCal, mkCal, ht]; rfl
          have o1 : calOk ms (mkCal c x.1) := ⟨hc.1, hc.2.1, hc.2.2.1, h1 x hx⟩
          have b1 := (beh hk hS hN hs o1 ht).1
          generalize dA x = X at *
          simp -implicitDefEqProofs [ea, ix, em, b1, hz]
          exact f1 _ _ _ _ _ o1 ht
      · simp -implicitDefEqProofs [hr, b0, hz]
        exact f1 _ _ _ _ _ hc ht
    · simp -implicitDefEqProofs [h0, b0, hz]
      exact f1 _ _ _ _ _ hc ht
theorem s_law_calls (hk : kindOk S ms) (hS : S ≤ 8) (hst : st < S) {n : Nat} (hn : n ≤ 1000) : WP (m_law_calls [.wld 0, dModel S st ms, dN n]) fun r => ∃ cs : List Cal, r = .ok (.node .lst (cs.map dCal)) ∧ cs.length = n ∧ ∀ c ∈ cs, calOk ms c ∧ c.t = .tup := by
  have i1 : ixO (dModel S st ms) (.int 1) = some (dN st) := rfl
  have er : rngD1 [.int n] = some ((List.range n).map dN) := rngD1_sz n (sz_le (by omega))
  generalize hN : dModel S st ms = N at *
  simp -implicitDefEqProofs [m_law_calls, i1, er]
  refine V_for _ (fun done ρ => ∃ cs s3 states s5 s6 s7 s8 s9, (s3 = .val (.node .lst (states.map dN)) ∨ s3 = .own .lst (states.map dN)) ∧ inS S states ∧ cs.length = done.length ∧ (∀ c ∈ cs, calOk ms c ∧ c.t = .tup) ∧ ρ = [.val (.wld 0), .val N, .val (dN n), s3, .own .lst (cs.map dCal), s5, s6, s7, s8, s9]) ⟨[], _, [st], _, _, _, _, _, .inr rfl, ⟨by simp, by simpa using hst⟩, rfl, by simp, rfl⟩ ?_ ?_
  · rintro done b rest _ e ⟨cs, s3, states, s5, s6, s7, s8, s9, h3, hs, hl, hc, rfl⟩
    have hl' : cs.length ≤ 1000 := by
      have := congrArg List.length e
      simp at this; omega
    refine ⟨_, rfl, ?_⟩
    refine calls_turn hk hS hst hN hs hl' h3 ?_
    intro c states' s5 s6 s7 s8 s9 o1 o2 o3
    refine ⟨cs ++ [c], _, states', _, _, _, _, _, .inl rfl, o3, by simp [hl], ?_, rfl⟩
    intro x hx
    rcases List.mem_append.mp hx with z | z
    · exact hc x z
    · simp at z; rw [z]; exact ⟨o1, o2⟩
  · rintro _ ⟨cs, s3, states, s5, s6, s7, s8, s9, h3, hs, hl, hc, rfl⟩
    simp -implicitDefEqProofs
    exact ⟨cs, rfl, by simpa using hl, hc⟩
/-- how reached refuses -/
theorem s_law_refused_i {d : D} {i : Int} (h : ∀ Q : Except Err D → Prop, Q (.error ⟨9, [.int i]⟩) → WP (m_reached [dKind S st ms, d]) Q) {Q : Except Err D → Prop} : WP (m_law_refused [dKind S st ms, d]) Q ↔ Q (.ok (.int i)) := by
  refine V_iff fun Q q => ?_
  generalize dKind S st ms = K at *
  simp -implicitDefEqProofs [m_law_refused]
  refine h _ ?_
  have e9 : lkF (cf 9) [D.int i] z_index = some (.int i) := rfl
  simpa -implicitDefEqProofs [tryGo, ans_BadCalls, okx_index, noXs, noX, eXf, offX, outX, e9] using q
theorem s_law_refused_let {d r : D} (h : ∀ Q : Except Err D → Prop, Q (.ok r) → WP (m_reached [dKind S st ms, d]) Q) {Q : Except Err D → Prop} : WP (m_law_refused [dKind S st ms, d]) Q ↔ Q (.ok (.str z_let)) := by
  refine V_iff fun Q q => ?_
  generalize dKind S st ms = K at *
  simp -implicitDefEqProofs [m_law_refused]
  refine h _ ?_
  simpa -implicitDefEqProofs using q
end
end DL

/-! E_k07: the law of rows of calls. -/
namespace DL
open PySem PySem.Spec PyProof.Rows L2 PySem.W
theorem cut_to {α : Type} (xs : List α) (k : Nat) : cutL xs none (some (k : Int)) = xs.take k := by
  unfold cutL
  rw [HT.sIx_none, HT.sIx_nat]
  simp
theorem cut_from {α : Type} (xs : List α) (k : Nat) : cutL xs (some (k : Int)) none = xs.drop k := by
  unfold cutL
  rw [HT.sIx_none, HT.sIx_nat]
  by_cases h : k ≤ xs.length
  · rw [Nat.min_eq_left h, List.take_of_length_le (by simp)]
  · rw [Nat.min_eq_right (by omega)]
    simp
    omega
def IsT (r : SR) : Prop := isTrueR r = true
theorem sortK_mem {ms : List (Str × Meth)} (hs : ∀ p ∈ ms, methSorted p.2) {p : Str × Meth} : p ∈ sortK ms ↔ p ∈ ms := by
  unfold sortK
  rw [List.mem_map]
  constructor
  · rintro ⟨q, h1, rfl⟩
    rw [sortBy_mem] at h1
    rw [sortM_id (hs q h1)]
    exact h1
  · intro h
    exact ⟨p, (sortBy_mem _ _ _).mpr h, by rw [sortM_id (hs p h)]⟩
theorem sortK_ok {S : Nat} {ms : List (Str × Meth)} (hk : kindOk S ms) (hs : ∀ p ∈ ms, methSorted p.2) : kindOk S (sortK ms) := by
  have hl : (sortK ms).length = ms.length := by unfold sortK; rw [List.length_map, sortBy_length]
  refine ⟨by rw [hl]; exact hk.1, by rw [hl]; exact hk.2.1, ?_, fun p hp => hk.2.2.2 p ((sortK_mem hs).mp hp)⟩
  have e : (sortK ms).map (·.1) = sortBy dS (ms.map (·.1)) := by
    rw [← sortK_names]
    unfold sortK
    rw [List.map_map]
    rfl
  unfold NoTwin
  rw [e]
  exact (sortBy_perm _ _).nodup_iff.mpr hk.2.2.1
/-- a call as a list or a tuple -/
def Alike (c c' : Cal) : Prop := c'.p = c.p ∧ c'.a = c.a ∧ c'.r = c.r ∧ (c'.t = .lst ∨ c'.t = .tup)
theorem reachedF_alike (st : Nat) : ∀ {cs cs' : List Cal}, All2 Alike cs cs' → reachedF st cs' = reachedF st cs := by
  have key : ∀ {cs cs' : List Cal}, All2 Alike cs cs' → ∀ s, cs'.foldl (fun states c => behind c.p.2 c.a c.r states) s = cs.foldl (fun states c => behind c.p.2 c.a c.r states) s := by
    intro cs cs' h
    induction h with
    | nil => intro s; rfl
    | cons p _ ih =>
      intro s
      simp only [List.foldl_cons, p.1, p.2.1, p.2.2.1]
      exact ih _
  exact fun {cs cs'} h => key h [st]
theorem All2.take {α β : Type} {P : α → β → Prop} : ∀ {as : List α} {bs : List β} (n : Nat), All2 P as bs → All2 P (as.take n) (bs.take n)
  | _, _, n, .nil => by simp; exact .nil
  | _, _, 0, .cons _ _ => .nil
  | _, _, n + 1, .cons p h => .cons p (h.take n)
theorem pln_states (l : List Nat) (hl : l.length ≤ 100) : pln 7 (.node .tup (l.map dN)) = true := pln_seq .tup rfl (by exact sz_le (by omega)) fun a _ => pln_dN a 6
theorem pln_cal {c : Cal} (h : c.t = .lst ∨ c.t = .tup) : pln 6 (dCal c) = true := by
  unfold dCal dCallT
  rcases h with h | h <;> simp [h, pln, seqTag, pln_dN]
section
variable {S st : Nat} {ms : List (Str × Meth)}
theorem told_wrong (nt : NoTwin ms) {p : Str × Meth} (hp : p ∈ ms) (he : (zh_ : Str) ∉ ms.map (·.1)) : ∀ d ∈ [D.non, .node .tup [], .node .tup [.str p.1, .int 0], .node .tup [.str p.1, .int 0, .int 0, .int 0], .node .tup [.str p.1, dN p.2.a, .int 0], .node .tup [.str p.1, .int 0, dN p.2.r], .node .tup [.str p.1, .bl true, .int 0],
    .node .tup [.str p.1, .int 0, .non], .node .tup [.str zh_, .int 0, .int 0], .node .tup [.node .lst [], .int 0, .int 0], .str p.1, .int 0, .node (.dct []) [], .node .tup [.str p.1, .int (-1), .int 0], .node .tup [.str p.1, .int 0, .str z_0], .node .tup [.node (.dct []) [], .int 0, .int 0]], Told S st ms d false := by
  intro d hd
  unfold Told
  simp only [List.mem_cons, List.not_mem_nil, or_false] at hd
  rcases hd with rfl | rfl | rfl | rfl | rfl | rfl | rfl | rfl | rfl | rfl | rfl | rfl | rfl | rfl | rfl | rfl
  · exact s_told_no_row (by simp)
  · exact s_told_no_row (by simp)
  · exact s_told_no_row (by simp)
  · exact s_told_no_row (by simp)
  · rw [s_told nt hp (.inr rfl)]; simp
  · rw [s_told nt hp (.inr rfl)]; simp
  · exact s_told_no_arg nt hp (by simp) _
  · exact s_told_no_res nt hp _ (by simp)
  · exact s_told_other_name he _ _
  · exact s_told_no_name (k := 4) rfl rfl _ _
  · exact s_told_no_row (by simp)
  · exact s_told_no_row (by simp)
  · exact s_told_no_row (by simp)
  · rw [s_told nt hp (.inr rfl)]; simp
  · exact s_told_no_res nt hp _ (by simp)
  · exact s_told_no_name (k := 6) rfl rfl _ _
theorem same_ii' (i j : Int) : m_law_same 8 [.int i, .int j] = .ret (.ok (.bl (i == j))) := same_ii 7 j i
theorem no60 {S st : Nat} {ms : List (Str × Meth)} {d : D} (h : m_is_row_of [d, .int 0, .int 60] = .ret (.ok (.bl false))) {Q : Except Err D → Prop} : WP (m_law_refused [dKind S st ms, d]) Q ↔ Q (.ok (.int (-1))) :=
  s_law_refused_i fun Q q => (s_reached_no h).mpr q
theorem st_D (hk : kindOk S ms) {mk : List (Str × Meth)} {N K : D} (hN : dModel S st ms = N) (hK : dKind S st mk = K) {s0 s2 s5 s6 s7 s8 s9 s10 s11 s12 s13 s14 s15 s16 s17 s18 s19 : Slot} :
    WP (sSeq ml19 (sSeq ml20 ml21) [s0, .val (.wld 0), s2, .val N, .val K, s5, s6, s7, s8, s9, s10, s11, s12, s13, s14, s15, s16, s17, s18, s19]) IsT := by
  have call := s_law_call (S := S) (st := st) hk
  rw [hN] at call
  simp -implicitDefEqProofs [ml19]
  refine call.mono ?_
  rintro _ ⟨c, rfl, hc, ht⟩
  obtain ⟨L, er, hL⟩ : ∃ L, repO (.lst, [dCal c]) (.int 61) = some (.lst, L) ∧ L.length = 61 := ⟨_, by simp [repO, sz_val]; rfl, by simp⟩
  simp -implicitDefEqProofs [er]
  have key : ∀ d ∈ [D.non, .node (.dct []) [], .str zh_, .int 0, .node .lst (L), .node .tup (L)], m_is_row_of [d, .int 0, .int 60] = .ret (.ok (.bl false)) := by
    intro d hd
    simp only [List.mem_cons, List.not_mem_nil, or_false] at hd
    rcases hd with rfl | rfl | rfl | rfl | rfl | rfl <;> simp [hL]
  simp -implicitDefEqProofs [ml20]
  intro r r0 r1
  obtain ⟨d, hd, ea⟩ := pick_at (fun d : D => d) [D.non, .node (.dct []) [], .str zh_, .int 0, .node .lst (L), .node .tup (L)] r0 r1
  simp only [List.map_id'] at ea
  have kd := key d hd
  have rf := fun Q : Except Err D → Prop => no60 (S := S) (st := st) (ms := mk) kd (Q := Q)
  rw [hK] at rf
  simp -implicitDefEqProofs [ea, ml21, rf, same_ii']
  rfl
@[simp] theorem cutD_lst (ds : List D) (lo hi : Option Int) : cutD (.node .lst ds) lo hi = some (.node .lst (cutL ds lo hi)) := rfl
@[simp] theorem catO_lst (xs ys : List D) : catO (.node .lst xs) (.node .lst ys) = if xs.length + ys.length ≤ sz then some (.lst, xs ++ ys) else none := rfl
open Classical in
theorem same_int (a : D) (j : Int) (ha : pln 7 a = true) : m_law_same 8 [a, .int j] = .ret (.ok (.bl (decide (a = .int j)))) := s_same 7 8 (by omega) a (.int j) ha rfl
theorem st_C (hk : kindOk S ms) (hms : ∀ p ∈ ms, methSorted p.2) {N K : D} (hN : dModel S st ms = N) (hK : dKind S st (sortK ms) = K) {n : Nat} {ps : List Cal} (hp : ∀ c ∈ ps, calOk ms c) (hl : ps.length = n) (hn : n ≤ 60)
    {s0 s5 s7 s8 s9 s10 s11 s12 s13 s14 s15 s16 s17 s18 s19 : Slot} :
    WP (sSeq ml9 (sSeq ml10 (sSeq ml11 (sSeq ml12 (sSeq ml13 (sSeq ml14 (sSeq ml15 (sSeq ml16 (sSeq ml17 (sSeq ml18 (sSeq ml19 (sSeq ml20 ml21))))))))))) [s0, .val (.wld 0), .val (dN n), .val N, .val K, s5, .val (.node .lst (ps.map dCal)), s7, s8, s9, s10, s11, s12, s13, s14, s15, s16, s17, s18, s19]) IsT := by
  obtain ⟨keys, names, e1, e2, e3, e4⟩ := model_nm hk
  have i2 : ixO N (.int 2) = some (dMap dML ms) := by rw [← hN]; rfl
  have n1 : 0 < names.length := by have := hk.1; omega
  obtain ⟨nm, hnm, ea⟩ := pick_at dS names (r := 0) (by omega) (by omega)
  obtain ⟨p, hpm, rfl⟩ := e4 nm hnm
  have hm := (hk.2.2.2 p hpm).2
  have em : ixO (dMap dML ms) (.str p.1) = some (dML p.2) := lk_mem hk.2.2.1 hpm
  have he : (zh_ : Str) ∉ (sortK ms).map (·.1) := by
    intro h
    obtain ⟨q, q1, q2⟩ := List.mem_map.mp h
    have := (hk.2.2.2 q ((sortK_mem hms).mp q1)).1
    rw [q2] at this
    exact absurd this (by decide)
  have hko := sortK_ok hk hms
  have tw := told_wrong (S := S) (st := st) hko.2.2.1 ((sortK_mem hms).mpr hpm) he
  simp -implicitDefEqProofs [ml9, i2, e1, e2, ea]
  simp -implicitDefEqProofs [ml10, i2, em]
  rw [show dML p.2 = .node .tup [dN p.2.a, dN p.2.r, dRows .lst .lst .lst p.2.rows] from rfl]
  simp -implicitDefEqProofs [ml11]
  have z7 : 7 + 9 ≤ sz := by rw [sz_val]; omega
  simp -implicitDefEqProofs [ml12, z7]
  generalize hW : [D.non, .node .tup [], .node .tup [.str p.1, .int 0], .node .tup [.str p.1, .int 0, .int 0, .int 0], .node .tup [.str p.1, dN p.2.a, .int 0], .node .tup [.str p.1, .int 0, dN p.2.r], .node .tup [.str p.1, .bl true, .int 0],
    .node .tup [.str p.1, .int 0, .non], .node .tup [.str zh_, .int 0, .int 0], .node .tup [.node .lst [], .int 0, .int 0], .str p.1, .int 0, .node (.dct []) [], .node .tup [.str p.1, .int (-1), .int 0], .node .tup [.str p.1, .int 0, .str z_0], .node .tup [.node (.dct []) [], .int 0, .int 0]] = W at *
  have lW : W.length = 16 := by rw [← hW]; rfl
  have hn1 : (n : Int) + 1 ≤ 100 := by omega
  simp -implicitDefEqProofs [ml13, hn1]
  intro r r0 r1
  obtain ⟨k, rfl⟩ := Int.eq_ofNat_of_zero_le r0
  have lW2 : (W.length : Int) ≤ 100 := by omega
  have hk2 : k ≤ n := by omega
  simp -implicitDefEqProofs [ml14, cut_to, cut_from, lW2]
  refine ⟨by omega, fun w w0 w1 => ?_⟩
  obtain ⟨d, hd, eb⟩ := pick_at (fun d : D => d) W w0 w1
  simp only [List.map_id'] at eb
  have td := tw d hd
  have lp : ((ps.map dCal).take k).length = k := by rw [List.length_take, List.length_map, hl]; omega
  have lq : ((ps.map dCal).drop k).length = n - k := by rw [List.length_drop, List.length_map, hl]
  have hpre : ∀ x ∈ (ps.map dCal).take k, Told S st (sortK ms) x true := by
    intro x hx
    obtain ⟨c, hc, rfl⟩ := List.mem_map.mp (List.mem_of_mem_take hx)
    have o := hp c hc
    exact told_cal hko.2.2.1 ⟨o.1, (sortK_mem hms).mpr o.2.1, o.2.2⟩
  have cf := cut_from (ps.map dCal) k
  generalize (ps.map dCal).take k = pre at *
  generalize (ps.map dCal).drop k = post at *
  have z1 : pre.length + 1 ≤ sz := sz_le (by omega)
  have z2 : pre.length + (post.length + 1) ≤ sz := sz_le (by omega)
  have z3 : pre.length + 1 + post.length ≤ sz := sz_le (by omega)
  have z4 : pre.length + 1 + post.length < sz := sz_lt (by omega)
  have z5 : pre.length + (post.length + 1) < sz := sz_lt (by omega)
  simp -implicitDefEqProofs [eb, z1, z2, z3, cf]
  have main : ∀ (post' : List D) (s15 s16 : Slot), post'.length ≤ 100 → s15 = .own .lst (pre ++ d :: post') → WP (sSeq ml16 (sSeq ml17 (sSeq ml18 (sSeq ml19 (sSeq ml20 ml21))))
      [s0, .val (.wld 0), .val (dN n), .val N, .val K, s5, .val (.node .lst (ps.map dCal)), s7, s8, .val (dS p.1), .val (dN p.2.a), .val (dN p.2.r), .val (dRows .lst .lst .lst p.2.rows), .val (.node .lst W), .val (dN k), s15, s16, s17, s18, s19]) IsT := by
    intro post' s15 s16 hl' h15
    subst h15
    simp -implicitDefEqProofs [ml16, ml17]
    by_cases h60 : (60 : Int) < (pre.length : Int) + ((post'.length : Int) + 1)
    · have hno : m_is_row_of [.node .lst (pre ++ d :: post'), .int 0, .int 60] = .ret (.ok (.bl false)) := by simp; omega
      have rf := fun Q : Except Err D → Prop => no60 (S := S) (st := st) (ms := sortK ms) hno (Q := Q)
      rw [hK] at rf
      simp -implicitDefEqProofs [h60, ml18, rf, same_ii']
      exact V_seq.mp (st_D hk hN hK)
    · have bad := fun Q : Except Err D → Prop => (s_law_refused_i (S := S) (st := st) (ms := sortK ms) (d := .node .lst (pre ++ d :: post')) (i := k) (fun Q q => (s_reached_bad rfl hpre td (by simp; omega) (.inl rfl)).mpr (by rw [lp]; exact q)) (Q := Q))
      rw [hK] at bad
      simp -implicitDefEqProofs [h60, ml18, bad, same_ii']
      exact V_seq.mp (st_D hk hN hK)
  simp -implicitDefEqProofs [ml15]
  intro b b0 b1
  by_cases hb : b = 0
  · simp -implicitDefEqProofs [hb, z5, eqO_int]
    have := main (post ++ [.non]) (.own .lst (pre ++ d :: (post ++ [.non]))) s16 (by simp; omega) rfl
    simpa using this
  · simp -implicitDefEqProofs [eqO_int, hb]
    exact V_seq.mp (main post _ s16 (by omega) rfl)
theorem take_map {α : Type} (f : α → D) (l : List α) (k : Nat) : (l.map f).take k = (l.take k).map f := List.map_take.symm
theorem states_len (hk : kindOk S ms) (hS : S ≤ 8) : ∀ {cs : List Cal} {states : List Nat}, (∀ c ∈ cs, calOk ms c) → inS S states → (cs.foldl (fun states c => behind c.p.2 c.a c.r states) states).length ≤ 8
  | [], _, _, h => Nat.le_trans (inS_len h) hS
  | c :: cs, states, h, h' => states_len hk hS (cs := cs) (fun x hx => h x (List.mem_cons_of_mem _ hx)) (behind_in (hk.2.2.2 _ (h c List.mem_cons_self).2.1).2 (h c List.mem_cons_self).2.2.1 h'.2)
theorem reached_both (hk : kindOk S ms) (hms : ∀ p ∈ ms, methSorted p.2) (hS : S ≤ 8) (hst : st < S) {N K : D} (hN : dModel S st ms = N) (hK : dKind S st (sortK ms) = K) {cs ps : List Cal} (hc : ∀ c ∈ cs, calOk ms c ∧ c.t = .tup) (ha : All2 Alike cs ps) (hl : cs.length ≤ 60) {t : Tag} (ht : t = .lst ∨ t = .tup) :
    ∃ l : List Nat, l.length ≤ 8 ∧ (∀ Q : Except Err D → Prop, WP (m_reached [K, .node t (ps.map dCal)]) Q ↔ Q (.ok (.node .tup (l.map dN)))) ∧ (∀ Q : Except Err D → Prop, WP (m_law_reached [N, .node .lst (cs.map dCal)]) Q ↔ Q (.ok (.node .lst (l.map dN)))) := by
  have hp : ∀ c ∈ ps, calOk (sortK ms) c := by
    intro c hcp
    obtain ⟨c0, h0, h1, h2, h3, h4⟩ := ha.mem c hcp
    have o := (hc c0 h0).1
    refine ⟨h4, (sortK_mem hms).mpr (by rw [h1]; exact o.2.1), by rw [h1, h2]; exact o.2.2.1, by rw [h1, h3]; exact o.2.2.2⟩
  have hlp : ps.length ≤ 60 := by rw [← ha.length]; exact hl
  have e := reachedF_alike st ha
  refine ⟨reachedF st cs, states_len hk hS (fun c h => (hc c h).1) ⟨by simp, by simpa using hst⟩, fun Q => ?_, fun Q => ?_⟩
  · rw [← hK, s_reached (sortK_ok hk hms) hS hst hp hlp ht, e]
  · rw [← hN, s_law_reached hk hS hst hc]
open Classical in
theorem same_states {l : List Nat} (h : l.length ≤ 8) : m_law_same 8 [.node .tup (l.map dN), .node .tup (l.map dN)] = .ret (.ok (.bl true)) := by
  rw [s_same 7 8 (by omega) _ _ (pln_states l (by omega)) (pln_states l (by omega))]; simp
theorem st_B (hk : kindOk S ms) (hms : ∀ p ∈ ms, methSorted p.2) (hS : S ≤ 8) (hst : st < S) {N K : D} (hN : dModel S st ms = N) (hK : dKind S st (sortK ms) = K) {n : Nat} {cs ps : List Cal} (hc : ∀ c ∈ cs, calOk ms c ∧ c.t = .tup) (ha : All2 Alike cs ps) (hl : cs.length = n) (hn : n ≤ 60)
    {s0 s8 s9 s10 s11 s12 s13 s14 s15 s16 s17 s18 s19 : Slot} :
    WP (sSeq ml6 (sSeq ml7 (sSeq ml8 (sSeq ml9 (sSeq ml10 (sSeq ml11 (sSeq ml12 (sSeq ml13 (sSeq ml14 (sSeq ml15 (sSeq ml16 (sSeq ml17 (sSeq ml18 (sSeq ml19 (sSeq ml20 ml21)))))))))))))) [s0, .val (.wld 0), .val (dN n), .val N, .val K, .val (.node .lst (cs.map dCal)), .val (.node .lst (ps.map dCal)), .val (.node .lst (ps.map dCal)), s8, s9, s10, s11, s12, s13, s14, s15, s16, s17, s18, s19]) IsT := by
  have fd : fdivG (dN n) (.int 2) = some (dN (n / 2)) := rfl
  have hp : ∀ c ∈ ps, calOk ms c := by
    intro c hcp
    obtain ⟨c0, h0, h1, h2, h3, h4⟩ := ha.mem c hcp
    have o := (hc c0 h0).1
    exact ⟨h4, by rw [h1]; exact o.2.1, by rw [h1, h2]; exact o.2.2.1, by rw [h1, h3]; exact o.2.2.2⟩
  have hlp : ps.length = n := by rw [← ha.length]; exact hl
  have turn : ∀ (k : Nat) (J : Rho → Prop) (Q : SR → Prop), J [s0, .val (.wld 0), .val (dN n), .val N, .val K, .val (.node .lst (cs.map dCal)), .val (.node .lst (ps.map dCal)), .val (.node .lst (ps.map dCal)), .val (dN k), s9, s10, s11, s12, s13, s14, s15, s16, s17, s18, s19] → WP (p_law_2 [s0, .val (.wld 0), .val (dN n), .val N, .val K, .val (.node .lst (cs.map dCal)), .val (.node .lst (ps.map dCal)), .val (.node .lst (ps.map dCal)), .val (dN k), s9, s10, s11, s12, s13, s14, s15, s16, s17, s18, s19]) (kF J Q) := by
    intro k J Q j
    obtain ⟨l, l8, r1, r2⟩ := reached_both hk hms hS hst hN hK (cs := cs.take k) (ps := ps.take k) (fun c h => hc c (List.mem_of_mem_take h)) (ha.take k) (by rw [List.length_take]; omega) (.inl rfl)
    rw [← take_map] at r1 r2
    have sm := same_states l8
    simp only [dN] at j
    simp -implicitDefEqProofs [p_law_2, cut_to, r1, r2, sm, j]
  obtain ⟨l, l8, r1, r2⟩ := reached_both hk hms hS hst hN hK hc ha (by omega) (t := .tup) (.inr rfl)
  have sm := same_states l8
  have plp : pln 7 (.node .lst (ps.map dCal)) = true := pln_seq .lst rfl (sz_le (by omega)) fun c h => pln_cal (hp c h).1
  have sp : m_law_same 8 [.node .lst (ps.map dCal), .node .lst (ps.map dCal)] = .ret (.ok (.bl true)) := by
    rw [s_same 7 8 (by omega) _ _ plp plp]; simp
  simp -implicitDefEqProofs [ml6, fd]
  refine V_for dN (bs := [n, n / 2, 0]) (fun _ ρ => ∃ s8, ρ = [s0, .val (.wld 0), .val (dN n), .val N, .val K, .val (.node .lst (cs.map dCal)), .val (.node .lst (ps.map dCal)), .val (.node .lst (ps.map dCal)), s8, s9, s10, s11, s12, s13, s14, s15, s16, s17, s18, s19]) ⟨_, rfl⟩ ?_ ?_
  · rintro done k rest _ e ⟨s8, rfl⟩
    exact ⟨_, rfl, turn k _ _ ⟨_, rfl⟩⟩
  · rintro _ ⟨s8, rfl⟩
    simp -implicitDefEqProofs [ml7, r1, r2, sm, ml8, sp]
    exact V_seq.mp (st_C hk hms hN hK hp hlp hn)
@[simp] theorem int1O_bl (b : Bool) : int1O (.bl b) = some (.int (if b then 1 else 0)) := rfl
/-- each call as a list or a tuple -/
theorem passed_WP {cs : List Cal} (hc : ∀ c ∈ cs, c.t = .tup) (hl : cs.length ≤ 100) {s0 s2 s3 s4 s6 s7 s8 s9 s10 s11 s12 s13 s14 s15 s16 s17 s18 s19 : Slot} {Q : SR → Prop}
    (q : ∀ ps, All2 Alike cs ps → Q (.nx [s0, .val (.wld 0), s2, s3, s4, .val (.node .lst (cs.map dCal)), .own .lst (ps.map dCal), s7, s8, s9, s10, s11, s12, s13, s14, s15, s16, s17, s18, .none])) :
    WP (ml4 [s0, .val (.wld 0), s2, s3, s4, .val (.node .lst (cs.map dCal)), s6, s7, s8, s9, s10, s11, s12, s13, s14, s15, s16, s17, s18, s19]) Q := by
  have hz : cs.length ≤ sz := sz_le (by omega)
  simp -implicitDefEqProofs [ml4, hz]
  refine V_lc dCal (fun c d => ∃ c', d = dCal c' ∧ Alike c c') rfl ?_ ?_
  · intro c hm
    refine ⟨_, rfl, ?_⟩
    have ht := hc c hm
    have el : listO (dCal c) = some (.lst, [.str c.p.1, dN c.a, dN c.r]) := by rw [dCal, ht]; rfl
    have e1 : D.node .lst [.str c.p.1, dN c.a, dN c.r] = dCal { c with t := .lst } := rfl
    simp -implicitDefEqProofs [p_law_1, el, e1]
    intro r r0 r1
    obtain ⟨x, hx, ea⟩ := pick_at dCal [c, { c with t := .lst }] r0 r1
    simp only [List.map_cons, List.map_nil] at ea
    simp -implicitDefEqProofs [ea]
    refine ⟨x, rfl, ?_⟩
    simp at hx
    rcases hx with rfl | rfl
    · exact ⟨rfl, rfl, rfl, .inr ht⟩
    · exact ⟨rfl, rfl, rfl, .inl rfl⟩
  · intro ys ρ' h0 h
    obtain ⟨ps, rfl, h2⟩ := h.typed
    simp only [wipeR_nil, wipeR_cons] at h0
    simp -implicitDefEqProofs [h0]
    exact q ps h2
theorem st_A : WP (m_law (startL 20 1)) IsT := by
  rw [show startL 20 1 = [.none, .val (.wld 0), .none, .none, .none, .none, .none, .none, .none, .none, .none, .none, .none, .none, .none, .none, .none, .none, .none, .none] from rfl]
  simp -implicitDefEqProofs [m_law, ml0]
  intro a a0 a1 b b0 b1 c c0 c1
  obtain ⟨n, hn, ix⟩ : ∃ n : Nat, n ≤ 60 ∧ ixO (.node .lst [.int a, .int b]) (.int (if c = 0 then 1 else 0)) = some (dN n) := by
    obtain ⟨a, rfl⟩ := Int.eq_ofNat_of_zero_le a0
    obtain ⟨b, rfl⟩ := Int.eq_ofNat_of_zero_le b0
    by_cases h : c = 0
    · exact ⟨b, by omega, by simp [h]⟩
    · exact ⟨a, by omega, by simp [h]⟩
  simp -implicitDefEqProofs [-ixO_lst, eqO_int, ix, ml1]
  refine (s_law_model (most := 4) (tot := false) (by omega) (by omega)).mono ?_
  rintro _ ⟨S, st, ms, rfl, h1, h8, hst, hk, hms⟩
  have kd := s_law_kind (st := st) hk h1 h8 hst
  have calls := s_law_calls hk h8 hst (n := n) (by omega)
  generalize hN : dModel S st ms = N at *
  generalize hK : dKind S st (sortK ms) = K at *
  simp -implicitDefEqProofs [ml2, kd, ml3]
  refine calls.mono ?_
  rintro _ ⟨cs, rfl, hl, hc⟩
  simp -implicitDefEqProofs
  refine passed_WP (fun c h => (hc c h).2) (by omega) ?_
  intro ps ha
  have hlp : ps.length ≤ 100 := by rw [← ha.length]; omega
  have plp : pln 7 (.node .lst (ps.map dCal)) = true := pln_seq .lst rfl (sz_le (by omega)) fun c h => pln_cal (by
    obtain ⟨c0, h0, _, _, _, h4⟩ := ha.mem c h
    exact h4)
  have cp := s_copied 7 8 (by omega) _ plp
  simp -implicitDefEqProofs [ml5, cp]
  exact V_seq.mp (st_B hk hms h8 hst hN hK hc ha hl hn)
theorem law_ok : LawOk 20 1 m_law := ⟨st_A.go⟩
end
end DL

namespace DL
open PySem PySem.Spec PyProof.Rows L2 PySem.W
def hd0 : He.DefD := ⟨((PySem.Str.ofString "_law_pool"), none), (PySem.Str.ofString "_law_pool"), (PySem.Str.ofString "_law_pool"), defArgs (top 32), defBody (top 32), defScope (top 32), [], []⟩
def hd1 : He.DefD := ⟨((PySem.Str.ofString "_law_draw"), none), (PySem.Str.ofString "_law_draw"), (PySem.Str.ofString "_law_draw"), defArgs (top 33), defBody (top 33), defScope (top 33), [], []⟩
def hd2 : He.DefD := ⟨((PySem.Str.ofString "_law_names"), none), (PySem.Str.ofString "_law_names"), (PySem.Str.ofString "_law_names"), defArgs (top 34), defBody (top 34), defScope (top 34), [], []⟩
def hd3 : He.DefD := ⟨((PySem.Str.ofString "_law_answers"), none), (PySem.Str.ofString "_law_answers"), (PySem.Str.ofString "_law_answers"), defArgs (top 35), defBody (top 35), defScope (top 35), [], []⟩
def hd4 : He.DefD := ⟨((PySem.Str.ofString "_law_method"), none), (PySem.Str.ofString "_law_method"), (PySem.Str.ofString "_law_method"), defArgs (top 36), defBody (top 36), defScope (top 36), [], []⟩
def hd5 : He.DefD := ⟨((PySem.Str.ofString "_law_model"), none), (PySem.Str.ofString "_law_model"), (PySem.Str.ofString "_law_model"), defArgs (top 37), defBody (top 37), defScope (top 37), [], []⟩
def hd6 : He.DefD := ⟨((PySem.Str.ofString "is_integer"), none), (PySem.Str.ofString "is_integer"), (PySem.Str.ofString "is_integer"), defArgs (top 11), defBody (top 11), defScope (top 11), [], []⟩
def hd7 : He.DefD := ⟨((PySem.Str.ofString "is_between"), none), (PySem.Str.ofString "is_between"), (PySem.Str.ofString "is_between"), defArgs (top 12), defBody (top 12), defScope (top 12), [], []⟩
def hd8 : He.DefD := ⟨((PySem.Str.ofString "BadKind"), some (PySem.Str.ofString "__init__")), (PySem.Str.ofString "__init__"), (PySem.Str.ofString "BadKind.__init__"), defArgs (mem 3 0), defBody (mem 3 0), defScope (mem 3 0), [], []⟩
def hd9 : He.DefD := ⟨((PySem.Str.ofString "is_name"), none), (PySem.Str.ofString "is_name"), (PySem.Str.ofString "is_name"), defArgs (top 15), defBody (top 15), defScope (top 15), [], []⟩
def hd10 : He.DefD := ⟨((PySem.Str.ofString "is_row"), none), (PySem.Str.ofString "is_row"), (PySem.Str.ofString "is_row"), defArgs (top 13), defBody (top 13), defScope (top 13), [], []⟩
def hd11 : He.DefD := ⟨((PySem.Str.ofString "is_row_of"), none), (PySem.Str.ofString "is_row_of"), (PySem.Str.ofString "is_row_of"), defArgs (top 14), defBody (top 14), defScope (top 14), [], []⟩
def hd12 : He.DefD := ⟨((PySem.Str.ofString "are_answers"), none), (PySem.Str.ofString "are_answers"), (PySem.Str.ofString "are_answers"), defArgs (top 26), defBody (top 26), defScope (top 26), [], []⟩
def hd13 : He.DefD := ⟨((PySem.Str.ofString "is_method"), none), (PySem.Str.ofString "is_method"), (PySem.Str.ofString "is_method"), defArgs (top 27), defBody (top 27), defScope (top 27), [], []⟩
def hd14 : He.DefD := ⟨((PySem.Str.ofString "are_methods"), none), (PySem.Str.ofString "are_methods"), (PySem.Str.ofString "are_methods"), defArgs (top 28), defBody (top 28), defScope (top 28), [], []⟩
def hd15 : He.DefD := ⟨((PySem.Str.ofString "ordered_method"), none), (PySem.Str.ofString "ordered_method"), (PySem.Str.ofString "ordered_method"), defArgs (top 29), defBody (top 29), defScope (top 29), [], []⟩
def hd16 : He.DefD := ⟨((PySem.Str.ofString "Kind"), some (PySem.Str.ofString "__init__")), (PySem.Str.ofString "__init__"), (PySem.Str.ofString "Kind.__init__"), defArgs (mem 30 0), defBody (mem 30 0), defScope (mem 30 0), [], []⟩
def hd17 : He.DefD := ⟨((PySem.Str.ofString "_law_copied"), none), (PySem.Str.ofString "_law_copied"), (PySem.Str.ofString "_law_copied"), defArgs (top 38), defBody (top 38), defScope (top 38), [], []⟩
def hd18 : He.DefD := ⟨((PySem.Str.ofString "_law_kind"), none), (PySem.Str.ofString "_law_kind"), (PySem.Str.ofString "_law_kind"), defArgs (top 39), defBody (top 39), defScope (top 39), [], []⟩
def hd19 : He.DefD := ⟨((PySem.Str.ofString "_law_call"), none), (PySem.Str.ofString "_law_call"), (PySem.Str.ofString "_law_call"), defArgs (top 43), defBody (top 43), defScope (top 43), [], []⟩
def hd20 : He.DefD := ⟨((PySem.Str.ofString "_law_behind"), none), (PySem.Str.ofString "_law_behind"), (PySem.Str.ofString "_law_behind"), defArgs (top 41), defBody (top 41), defScope (top 41), [], []⟩
def hd21 : He.DefD := ⟨((PySem.Str.ofString "_law_calls"), none), (PySem.Str.ofString "_law_calls"), (PySem.Str.ofString "_law_calls"), defArgs (top 44), defBody (top 44), defScope (top 44), [], []⟩
def hd22 : He.DefD := ⟨((PySem.Str.ofString "_law_same"), none), (PySem.Str.ofString "_law_same"), (PySem.Str.ofString "_law_same"), defArgs (top 40), defBody (top 40), defScope (top 40), [], []⟩
def hd23 : He.DefD := ⟨((PySem.Str.ofString "BadCalls"), some (PySem.Str.ofString "__init__")), (PySem.Str.ofString "__init__"), (PySem.Str.ofString "BadCalls.__init__"), defArgs (mem 7 0), defBody (mem 7 0), defScope (mem 7 0), [], []⟩
def hd24 : He.DefD := ⟨((PySem.Str.ofString "Kind"), some (PySem.Str.ofString "__contains__")), (PySem.Str.ofString "__contains__"), (PySem.Str.ofString "Kind.__contains__"), defArgs (mem 30 1), defBody (mem 30 1), defScope (mem 30 1), [], []⟩
def hd25 : He.DefD := ⟨((PySem.Str.ofString "NoMethod"), some (PySem.Str.ofString "__init__")), (PySem.Str.ofString "__init__"), (PySem.Str.ofString "NoMethod.__init__"), defArgs (mem 4 0), defBody (mem 4 0), defScope (mem 4 0), [], []⟩
def hd26 : He.DefD := ⟨((PySem.Str.ofString "Kind"), some (PySem.Str.ofString "_method")), (PySem.Str.ofString "_method"), (PySem.Str.ofString "Kind._method"), defArgs (mem 30 3), defBody (mem 30 3), defScope (mem 30 3), [], []⟩
def hd27 : He.DefD := ⟨((PySem.Str.ofString "NoState"), some (PySem.Str.ofString "__init__")), (PySem.Str.ofString "__init__"), (PySem.Str.ofString "NoState.__init__"), defArgs (mem 5 0), defBody (mem 5 0), defScope (mem 5 0), [], []⟩
def hd28 : He.DefD := ⟨((PySem.Str.ofString "NoArgument"), some (PySem.Str.ofString "__init__")), (PySem.Str.ofString "__init__"), (PySem.Str.ofString "NoArgument.__init__"), defArgs (mem 6 0), defBody (mem 6 0), defScope (mem 6 0), [], []⟩
def hd29 : He.DefD := ⟨((PySem.Str.ofString "Kind"), some (PySem.Str.ofString "answers")), (PySem.Str.ofString "answers"), (PySem.Str.ofString "Kind.answers"), defArgs (mem 30 7), defBody (mem 30 7), defScope (mem 30 7), [], []⟩
def hd30 : He.DefD := ⟨((PySem.Str.ofString "states_behind"), none), (PySem.Str.ofString "states_behind"), (PySem.Str.ofString "states_behind"), defArgs (top 19), defBody (top 19), defScope (top 19), [], []⟩
def hd31 : He.DefD := ⟨((PySem.Str.ofString "Kind"), some (PySem.Str.ofString "results")), (PySem.Str.ofString "results"), (PySem.Str.ofString "Kind.results"), defArgs (mem 30 6), defBody (mem 30 6), defScope (mem 30 6), [], []⟩
def hd32 : He.DefD := ⟨((PySem.Str.ofString "Kind"), some (PySem.Str.ofString "arguments")), (PySem.Str.ofString "arguments"), (PySem.Str.ofString "Kind.arguments"), defArgs (mem 30 5), defBody (mem 30 5), defScope (mem 30 5), [], []⟩
def hd33 : He.DefD := ⟨((PySem.Str.ofString "is_told_call"), none), (PySem.Str.ofString "is_told_call"), (PySem.Str.ofString "is_told_call"), defArgs (top 18), defBody (top 18), defScope (top 18), [], []⟩
def hd34 : He.DefD := ⟨((PySem.Str.ofString "reached"), none), (PySem.Str.ofString "reached"), (PySem.Str.ofString "reached"), defArgs (top 20), defBody (top 20), defScope (top 20), [], []⟩
def hd35 : He.DefD := ⟨((PySem.Str.ofString "_law_refused"), none), (PySem.Str.ofString "_law_refused"), (PySem.Str.ofString "_law_refused"), defArgs (top 45), defBody (top 45), defScope (top 45), [], []⟩
def hd36 : He.DefD := ⟨((PySem.Str.ofString "_law_reached"), none), (PySem.Str.ofString "_law_reached"), (PySem.Str.ofString "_law_reached"), defArgs (top 42), defBody (top 42), defScope (top 42), [], []⟩
def hd37 : He.DefD := ⟨((PySem.Str.ofString "law"), none), (PySem.Str.ofString "law"), (PySem.Str.ofString "law"), defArgs (top 46), defBody (top 46), defScope (top 46), [], []⟩
def dl : List He.DefD := [hd0, hd1, hd2, hd3, hd4, hd5, hd6, hd7, hd8, hd9, hd10, hd11, hd12, hd13, hd14, hd15, hd16, hd17, hd18, hd19, hd20, hd21, hd22, hd23, hd24, hd25, hd26, hd27, hd28, hd29, hd30, hd31, hd32, hd33, hd34, hd35, hd36, hd37]
def fal0 : List He.Fa := [.glo (PySem.Str.ofString "_law_pool"), .glo (PySem.Str.ofString "_law_draw"), .glo (PySem.Str.ofString "_law_names"), .glo (PySem.Str.ofString "_law_answers"), .glo (PySem.Str.ofString "_law_method"), .glo (PySem.Str.ofString "_law_model"), .glo (PySem.Str.ofString "is_integer"), .glo (PySem.Str.ofString "is_between"), .glo (PySem.Str.ofString "is_name"), .glo (PySem.Str.ofString "is_row"), .glo (PySem.Str.ofString "is_row_of"), .glo (PySem.Str.ofString "are_answers"), .glo (PySem.Str.ofString "is_method"), .glo (PySem.Str.ofString "are_methods"), .glo (PySem.Str.ofString "ordered_method"), .glo (PySem.Str.ofString "_law_copied"), .glo (PySem.Str.ofString "_law_kind"), .glo (PySem.Str.ofString "_law_call"), .glo (PySem.Str.ofString "_law_behind"), .glo (PySem.Str.ofString "_law_calls"), .glo (PySem.Str.ofString "_law_same"), .glo (PySem.Str.ofString "states_behind"), .glo (PySem.Str.ofString "is_told_call"), .glo (PySem.Str.ofString "reached"), .glo (PySem.Str.ofString "_law_refused"), .glo (PySem.Str.ofString "_law_reached"), .glo (PySem.Str.ofString "law"), .free (PySem.Str.ofString "len"), .free (PySem.Str.ofString "all"), .free (PySem.Str.ofString "isinstance")]
def fal1 : List He.Fa := [.free (PySem.Str.ofString "sorted"), .free (PySem.Str.ofString "tuple"), .free (PySem.Str.ofString "list"), .free (PySem.Str.ofString "int"), .free (PySem.Str.ofString "range"), .free (PySem.Str.ofString "enumerate"), .free (PySem.Str.ofString "bool"), .free (PySem.Str.ofString "str"), .free (PySem.Str.ofString "dict"), .free (PySem.Str.ofString "max"), .str (PySem.Str.ofString "LETTERS") (PySem.Str.ofString "abcdefghijklmnopqrstuvwxyz"), .int (PySem.Str.ofString "LONGEST_NAME") 8, .int (PySem.Str.ofString "MOST_CALLS") 60, .int (PySem.Str.ofString "MOST_STATES") 8, .int (PySem.Str.ofString "MOST_METHODS") 4, .int (PySem.Str.ofString "MOST_VALUES") 4, .int (PySem.Str.ofString "MOST_ANSWERS") 8, .glo (PySem.Str.ofString "TowerError"), .glo (PySem.Str.ofString "BadKind"), .glo (PySem.Str.ofString "NoMethod"), .glo (PySem.Str.ofString "NoState"), .glo (PySem.Str.ofString "NoArgument"), .glo (PySem.Str.ofString "BadCalls"), .glo (PySem.Str.ofString "Kind"), .cls (PySem.Str.ofString "Kind"), .mkr (PySem.Str.ofString "Kind"), .noat (PySem.Str.ofString "Kind") (PySem.Str.ofString "states"), .noat (PySem.Str.ofString "Kind") (PySem.Str.ofString "start"), .noat (PySem.Str.ofString "Kind") (PySem.Str.ofString "_methods"), .meth (PySem.Str.ofString "Kind") (PySem.Str.ofString "__contains__")]
def fal2 : List He.Fa := [.meth (PySem.Str.ofString "Kind") (PySem.Str.ofString "_method"), .meth (PySem.Str.ofString "Kind") (PySem.Str.ofString "answers"), .meth (PySem.Str.ofString "Kind") (PySem.Str.ofString "results"), .meth (PySem.Str.ofString "Kind") (PySem.Str.ofString "arguments"), .meth (PySem.Str.ofString "BadKind") "__init__", .noat (PySem.Str.ofString "BadKind") (PySem.Str.ofString "part"), .meth (PySem.Str.ofString "NoMethod") "__init__", .noat (PySem.Str.ofString "NoMethod") (PySem.Str.ofString "method"), .meth (PySem.Str.ofString "NoState") "__init__", .noat (PySem.Str.ofString "NoState") (PySem.Str.ofString "state"), .meth (PySem.Str.ofString "NoArgument") "__init__", .noat (PySem.Str.ofString "NoArgument") (PySem.Str.ofString "argument"), .meth (PySem.Str.ofString "BadCalls") "__init__", .noat (PySem.Str.ofString "BadCalls") (PySem.Str.ofString "index"), .exm (PySem.Str.ofString "BadKind") (PySem.Str.ofString "BadCalls") false, .exm (PySem.Str.ofString "NoMethod") (PySem.Str.ofString "BadCalls") false, .exm (PySem.Str.ofString "NoState") (PySem.Str.ofString "BadCalls") false, .exm (PySem.Str.ofString "NoArgument") (PySem.Str.ofString "BadCalls") false, .exm (PySem.Str.ofString "BadCalls") (PySem.Str.ofString "BadCalls") true, .exm (PySem.Str.ofString "BadKind") (PySem.Str.ofString "TowerError") true, .exm (PySem.Str.ofString "NoMethod") (PySem.Str.ofString "TowerError") true, .exm (PySem.Str.ofString "NoState") (PySem.Str.ofString "TowerError") true, .exm (PySem.Str.ofString "NoArgument") (PySem.Str.ofString "TowerError") true, .exm (PySem.Str.ofString "BadCalls") (PySem.Str.ofString "TowerError") true]
def fal : List He.Fa := fal0 ++ fal1 ++ fal2
abbrev exK : PySem.W.Frag → Bool := exB [(PySem.Str.ofString "BadKind"), (PySem.Str.ofString "NoMethod"), (PySem.Str.ofString "NoState"), (PySem.Str.ofString "NoArgument"), (PySem.Str.ofString "BadCalls")] [(PySem.Str.ofString "Kind")]
theorem txt {w : World} {K : PySem.W.Frag} {h : Heap} {mg : PySem.Str → Option Value} (X : K.In h) (G : h.Ns mainGlobals mg) (c : He.SaysX fal dl [] [] exK w h K) : ∃ T : Txt K mg, T.ad 37 = He.ga K "law" := by
  obtain ⟨f0, F0⟩ := c.t.d.def_ 0 (d := hd0) rfl
  obtain ⟨f1, F1⟩ := c.t.d.def_ 1 (d := hd1) rfl
  obtain ⟨f2, F2⟩ := c.t.d.def_ 2 (d := hd2) rfl
  obtain ⟨f3, F3⟩ := c.t.d.def_ 3 (d := hd3) rfl
  obtain ⟨f4, F4⟩ := c.t.d.def_ 4 (d := hd4) rfl
  obtain ⟨f5, F5⟩ := c.t.d.def_ 5 (d := hd5) rfl
  obtain ⟨f6, F6⟩ := c.t.d.def_ 6 (d := hd6) rfl
  obtain ⟨f7, F7⟩ := c.t.d.def_ 7 (d := hd7) rfl
  obtain ⟨f8, F8⟩ := c.t.d.def_ 8 (d := hd8) rfl
  obtain ⟨f9, F9⟩ := c.t.d.def_ 9 (d := hd9) rfl
  obtain ⟨f10, F10⟩ := c.t.d.def_ 10 (d := hd10) rfl
  obtain ⟨f11, F11⟩ := c.t.d.def_ 11 (d := hd11) rfl
  obtain ⟨f12, F12⟩ := c.t.d.def_ 12 (d := hd12) rfl
  obtain ⟨f13, F13⟩ := c.t.d.def_ 13 (d := hd13) rfl
  obtain ⟨f14, F14⟩ := c.t.d.def_ 14 (d := hd14) rfl
  obtain ⟨f15, F15⟩ := c.t.d.def_ 15 (d := hd15) rfl
  obtain ⟨f16, F16⟩ := c.t.d.def_ 16 (d := hd16) rfl
  obtain ⟨f17, F17⟩ := c.t.d.def_ 17 (d := hd17) rfl
  obtain ⟨f18, F18⟩ := c.t.d.def_ 18 (d := hd18) rfl
  obtain ⟨f19, F19⟩ := c.t.d.def_ 19 (d := hd19) rfl
  obtain ⟨f20, F20⟩ := c.t.d.def_ 20 (d := hd20) rfl
  obtain ⟨f21, F21⟩ := c.t.d.def_ 21 (d := hd21) rfl
  obtain ⟨f22, F22⟩ := c.t.d.def_ 22 (d := hd22) rfl
  obtain ⟨f23, F23⟩ := c.t.d.def_ 23 (d := hd23) rfl
  obtain ⟨f24, F24⟩ := c.t.d.def_ 24 (d := hd24) rfl
  obtain ⟨f25, F25⟩ := c.t.d.def_ 25 (d := hd25) rfl
  obtain ⟨f26, F26⟩ := c.t.d.def_ 26 (d := hd26) rfl
  obtain ⟨f27, F27⟩ := c.t.d.def_ 27 (d := hd27) rfl
  obtain ⟨f28, F28⟩ := c.t.d.def_ 28 (d := hd28) rfl
  obtain ⟨f29, F29⟩ := c.t.d.def_ 29 (d := hd29) rfl
  obtain ⟨f30, F30⟩ := c.t.d.def_ 30 (d := hd30) rfl
  obtain ⟨f31, F31⟩ := c.t.d.def_ 31 (d := hd31) rfl
  obtain ⟨f32, F32⟩ := c.t.d.def_ 32 (d := hd32) rfl
  obtain ⟨f33, F33⟩ := c.t.d.def_ 33 (d := hd33) rfl
  obtain ⟨f34, F34⟩ := c.t.d.def_ 34 (d := hd34) rfl
  obtain ⟨f35, F35⟩ := c.t.d.def_ 35 (d := hd35) rfl
  obtain ⟨f36, F36⟩ := c.t.d.def_ 36 (d := hd36) rfl
  obtain ⟨f37, F37⟩ := c.t.d.def_ 37 (d := hd37) rfl
  exact ⟨{ ad := fun i => [He.fAd K hd0.at_, He.fAd K hd1.at_, He.fAd K hd2.at_, He.fAd K hd3.at_, He.fAd K hd4.at_, He.fAd K hd5.at_, He.fAd K hd6.at_, He.fAd K hd7.at_, He.fAd K hd8.at_, He.fAd K hd9.at_, He.fAd K hd10.at_, He.fAd K hd11.at_, He.fAd K hd12.at_, He.fAd K hd13.at_, He.fAd K hd14.at_, He.fAd K hd15.at_, He.fAd K hd16.at_, He.fAd K hd17.at_, He.fAd K hd18.at_, He.fAd K hd19.at_, He.fAd K hd20.at_, He.fAd K hd21.at_, He.fAd K hd22.at_, He.fAd K hd23.at_, He.fAd K hd24.at_, He.fAd K hd25.at_, He.fAd K hd26.at_, He.fAd K hd27.at_, He.fAd K hd28.at_, He.fAd K hd29.at_, He.fAd K hd30.at_, He.fAd K hd31.at_, He.fAd K hd32.at_, He.fAd K hd33.at_, He.fAd K hd34.at_, He.fAd K hd35.at_, He.fAd K hd36.at_, He.fAd K hd37.at_].getD i 0
           fd := fun i => [f0, f1, f2, f3, f4, f5, f6, f7, f8, f9, f10, f11, f12, f13, f14, f15, f16, f17, f18, f19, f20, f21, f22, f23, f24, f25, f26, f27, f28, f29, f30, f31, f32, f33, f34, f35, f36, f37].getD i f0
           ca := fun i => if i = 0 then He.ga K (PySem.Str.ofString "TowerError") else if i = 3 then He.ga K (PySem.Str.ofString "BadKind") else if i = 4 then He.ga K (PySem.Str.ofString "NoMethod") else if i = 5 then He.ga K (PySem.Str.ofString "NoState") else if i = 6 then He.ga K (PySem.Str.ofString "NoArgument") else if i = 9 then He.ga K (PySem.Str.ofString "BadCalls") else if i = 33 then He.ga K (PySem.Str.ofString "Kind") else 0
           g__law_pool := He.glo_ok X G (c.t.d.fact 0 (f := .glo (PySem.Str.ofString "_law_pool")) rfl)
           F_law_pool := F0
           g__law_draw := He.glo_ok X G (c.t.d.fact 1 (f := .glo (PySem.Str.ofString "_law_draw")) rfl)
           F_law_draw := F1
           g__law_names := He.glo_ok X G (c.t.d.fact 2 (f := .glo (PySem.Str.ofString "_law_names")) rfl)
           F_law_names := F2
           g__law_answers := He.glo_ok X G (c.t.d.fact 3 (f := .glo (PySem.Str.ofString "_law_answers")) rfl)
           F_law_answers := F3
           g__law_method := He.glo_ok X G (c.t.d.fact 4 (f := .glo (PySem.Str.ofString "_law_method")) rfl)
           F_law_method := F4
           g__law_model := He.glo_ok X G (c.t.d.fact 5 (f := .glo (PySem.Str.ofString "_law_model")) rfl)
           F_law_model := F5
           g_is_integer := He.glo_ok X G (c.t.d.fact 6 (f := .glo (PySem.Str.ofString "is_integer")) rfl)
           F_is_integer := F6
           g_is_between := He.glo_ok X G (c.t.d.fact 7 (f := .glo (PySem.Str.ofString "is_between")) rfl)
           F_is_between := F7
           F_BadKind___init := F8
           g_is_name := He.glo_ok X G (c.t.d.fact 8 (f := .glo (PySem.Str.ofString "is_name")) rfl)
           F_is_name := F9
           g_is_row := He.glo_ok X G (c.t.d.fact 9 (f := .glo (PySem.Str.ofString "is_row")) rfl)
           F_is_row := F10
           g_is_row_of := He.glo_ok X G (c.t.d.fact 10 (f := .glo (PySem.Str.ofString "is_row_of")) rfl)
           F_is_row_of := F11
           g_are_answers := He.glo_ok X G (c.t.d.fact 11 (f := .glo (PySem.Str.ofString "are_answers")) rfl)
           F_are_answers := F12
           g_is_method := He.glo_ok X G (c.t.d.fact 12 (f := .glo (PySem.Str.ofString "is_method")) rfl)
           F_is_method := F13
           g_are_methods := He.glo_ok X G (c.t.d.fact 13 (f := .glo (PySem.Str.ofString "are_methods")) rfl)
           F_are_methods := F14
           g_ordered_method := He.glo_ok X G (c.t.d.fact 14 (f := .glo (PySem.Str.ofString "ordered_method")) rfl)
           F_ordered_method := F15
           F_Kind___init := F16
           g__law_copied := He.glo_ok X G (c.t.d.fact 15 (f := .glo (PySem.Str.ofString "_law_copied")) rfl)
           F_law_copied := F17
           g__law_kind := He.glo_ok X G (c.t.d.fact 16 (f := .glo (PySem.Str.ofString "_law_kind")) rfl)
           F_law_kind := F18
           g__law_call := He.glo_ok X G (c.t.d.fact 17 (f := .glo (PySem.Str.ofString "_law_call")) rfl)
           F_law_call := F19
           g__law_behind := He.glo_ok X G (c.t.d.fact 18 (f := .glo (PySem.Str.ofString "_law_behind")) rfl)
           F_law_behind := F20
           g__law_calls := He.glo_ok X G (c.t.d.fact 19 (f := .glo (PySem.Str.ofString "_law_calls")) rfl)
           F_law_calls := F21
           g__law_same := He.glo_ok X G (c.t.d.fact 20 (f := .glo (PySem.Str.ofString "_law_same")) rfl)
           F_law_same := F22
           F_BadCalls___init := F23
           F_Kind___contains := F24
           F_NoMethod___init := F25
           F_Kind__method := F26
           F_NoState___init := F27
           F_NoArgument___init := F28
           F_Kind_answers := F29
           g_states_behind := He.glo_ok X G (c.t.d.fact 21 (f := .glo (PySem.Str.ofString "states_behind")) rfl)
           F_states_behind := F30
           F_Kind_results := F31
           F_Kind_arguments := F32
           g_is_told_call := He.glo_ok X G (c.t.d.fact 22 (f := .glo (PySem.Str.ofString "is_told_call")) rfl)
           F_is_told_call := F33
           g_reached := He.glo_ok X G (c.t.d.fact 23 (f := .glo (PySem.Str.ofString "reached")) rfl)
           F_reached := F34
           g__law_refused := He.glo_ok X G (c.t.d.fact 24 (f := .glo (PySem.Str.ofString "_law_refused")) rfl)
           F_law_refused := F35
           g__law_reached := He.glo_ok X G (c.t.d.fact 25 (f := .glo (PySem.Str.ofString "_law_reached")) rfl)
           F_law_reached := F36
           g_law := He.glo_ok X G (c.t.d.fact 26 (f := .glo (PySem.Str.ofString "law")) rfl)
           F_law := F37
           n_len := He.free_ok X G (c.t.d.fact 27 (f := .free (PySem.Str.ofString "len")) rfl)
           n_all := He.free_ok X G (c.t.d.fact 28 (f := .free (PySem.Str.ofString "all")) rfl)
           n_isinstance := He.free_ok X G (c.t.d.fact 29 (f := .free (PySem.Str.ofString "isinstance")) rfl)
           n_sorted := He.free_ok X G (c.t.d.fact 30 (f := .free (PySem.Str.ofString "sorted")) rfl)
           n_tuple := He.free_ok X G (c.t.d.fact 31 (f := .free (PySem.Str.ofString "tuple")) rfl)
           n_list := He.free_ok X G (c.t.d.fact 32 (f := .free (PySem.Str.ofString "list")) rfl)
           n_int := He.free_ok X G (c.t.d.fact 33 (f := .free (PySem.Str.ofString "int")) rfl)
           n_range := He.free_ok X G (c.t.d.fact 34 (f := .free (PySem.Str.ofString "range")) rfl)
           n_enumerate := He.free_ok X G (c.t.d.fact 35 (f := .free (PySem.Str.ofString "enumerate")) rfl)
           n_bool := He.free_ok X G (c.t.d.fact 36 (f := .free (PySem.Str.ofString "bool")) rfl)
           n_str := He.free_ok X G (c.t.d.fact 37 (f := .free (PySem.Str.ofString "str")) rfl)
           n_dict := He.free_ok X G (c.t.d.fact 38 (f := .free (PySem.Str.ofString "dict")) rfl)
           n_max := He.free_ok X G (c.t.d.fact 39 (f := .free (PySem.Str.ofString "max")) rfl)
           c_LETTERS := He.str_ok X G (c.t.d.fact 40 (f := .str (PySem.Str.ofString "LETTERS") (PySem.Str.ofString "abcdefghijklmnopqrstuvwxyz")) rfl)
           c_LONGEST_NAME := He.int_ok X G (c.t.d.fact 41 (f := .int (PySem.Str.ofString "LONGEST_NAME") 8) rfl)
           c_MOST_CALLS := He.int_ok X G (c.t.d.fact 42 (f := .int (PySem.Str.ofString "MOST_CALLS") 60) rfl)
           c_MOST_STATES := He.int_ok X G (c.t.d.fact 43 (f := .int (PySem.Str.ofString "MOST_STATES") 8) rfl)
           c_MOST_METHODS := He.int_ok X G (c.t.d.fact 44 (f := .int (PySem.Str.ofString "MOST_METHODS") 4) rfl)
           c_MOST_VALUES := He.int_ok X G (c.t.d.fact 45 (f := .int (PySem.Str.ofString "MOST_VALUES") 4) rfl)
           c_MOST_ANSWERS := He.int_ok X G (c.t.d.fact 46 (f := .int (PySem.Str.ofString "MOST_ANSWERS") 8) rfl)
           g_TowerError := He.glo_ok X G (c.t.d.fact 47 (f := .glo (PySem.Str.ofString "TowerError")) rfl)
           g_BadKind := He.glo_ok X G (c.t.d.fact 48 (f := .glo (PySem.Str.ofString "BadKind")) rfl)
           g_NoMethod := He.glo_ok X G (c.t.d.fact 49 (f := .glo (PySem.Str.ofString "NoMethod")) rfl)
           g_NoState := He.glo_ok X G (c.t.d.fact 50 (f := .glo (PySem.Str.ofString "NoState")) rfl)
           g_NoArgument := He.glo_ok X G (c.t.d.fact 51 (f := .glo (PySem.Str.ofString "NoArgument")) rfl)
           g_BadCalls := He.glo_ok X G (c.t.d.fact 52 (f := .glo (PySem.Str.ofString "BadCalls")) rfl)
           g_Kind := He.glo_ok X G (c.t.d.fact 53 (f := .glo (PySem.Str.ofString "Kind")) rfl)
           cl_Kind := (He.cls_ok (c.t.d.fact 54 (f := .cls (PySem.Str.ofString "Kind")) rfl))
           ob_Kind := (obAll_ok (He.cls_ok (c.t.d.fact 54 (f := .cls (PySem.Str.ofString "Kind")) rfl)) (exB_obj c.more (x := (PySem.Str.ofString "Kind")) (by decide))).1
           mk_Kind := He.mkr_ok (c.t.d.fact 55 (f := .mkr (PySem.Str.ofString "Kind")) rfl)
           na_Kind_states := He.noat_ok (c.t.d.fact 56 (f := .noat (PySem.Str.ofString "Kind") (PySem.Str.ofString "states")) rfl)
           na_Kind_start := He.noat_ok (c.t.d.fact 57 (f := .noat (PySem.Str.ofString "Kind") (PySem.Str.ofString "start")) rfl)
           na_Kind__methods := He.noat_ok (c.t.d.fact 58 (f := .noat (PySem.Str.ofString "Kind") (PySem.Str.ofString "_methods")) rfl)
           me_Kind___contains__ := He.meth_ok (c.t.d.fact 59 (f := .meth (PySem.Str.ofString "Kind") (PySem.Str.ofString "__contains__")) rfl)
           me_Kind__method := He.meth_ok (c.t.d.fact 60 (f := .meth (PySem.Str.ofString "Kind") (PySem.Str.ofString "_method")) rfl)
           me_Kind_answers := He.meth_ok (c.t.d.fact 61 (f := .meth (PySem.Str.ofString "Kind") (PySem.Str.ofString "answers")) rfl)
           me_Kind_results := He.meth_ok (c.t.d.fact 62 (f := .meth (PySem.Str.ofString "Kind") (PySem.Str.ofString "results")) rfl)
           me_Kind_arguments := He.meth_ok (c.t.d.fact 63 (f := .meth (PySem.Str.ofString "Kind") (PySem.Str.ofString "arguments")) rfl)
           ki_Kind := (obAll_ok (He.cls_ok (c.t.d.fact 54 (f := .cls (PySem.Str.ofString "Kind")) rfl)) (exB_obj c.more (x := (PySem.Str.ofString "Kind")) (by decide))).2
           ox_BadKind := (exB_exc c.more (x := (PySem.Str.ofString "BadKind")) (by decide)).1
           iC_BadKind := (He.meth_ok (c.t.d.fact 64 (f := .meth (PySem.Str.ofString "BadKind") "__init__") rfl)).at_
           tI_BadKind := typ_fn (He.meth_ok (c.t.d.fact 64 (f := .meth (PySem.Str.ofString "BadKind") "__init__") rfl))
           xf_BadKind := (exB_exc c.more (x := (PySem.Str.ofString "BadKind")) (by decide)).2
           nx_BadKind_part := He.noat_ok (c.t.d.fact 65 (f := .noat (PySem.Str.ofString "BadKind") (PySem.Str.ofString "part")) rfl)
           ox_NoMethod := (exB_exc c.more (x := (PySem.Str.ofString "NoMethod")) (by decide)).1
           iC_NoMethod := (He.meth_ok (c.t.d.fact 66 (f := .meth (PySem.Str.ofString "NoMethod") "__init__") rfl)).at_
           tI_NoMethod := typ_fn (He.meth_ok (c.t.d.fact 66 (f := .meth (PySem.Str.ofString "NoMethod") "__init__") rfl))
           xf_NoMethod := (exB_exc c.more (x := (PySem.Str.ofString "NoMethod")) (by decide)).2
           nx_NoMethod_method := He.noat_ok (c.t.d.fact 67 (f := .noat (PySem.Str.ofString "NoMethod") (PySem.Str.ofString "method")) rfl)
           ox_NoState := (exB_exc c.more (x := (PySem.Str.ofString "NoState")) (by decide)).1
           iC_NoState := (He.meth_ok (c.t.d.fact 68 (f := .meth (PySem.Str.ofString "NoState") "__init__") rfl)).at_
           tI_NoState := typ_fn (He.meth_ok (c.t.d.fact 68 (f := .meth (PySem.Str.ofString "NoState") "__init__") rfl))
           xf_NoState := (exB_exc c.more (x := (PySem.Str.ofString "NoState")) (by decide)).2
           nx_NoState_state := He.noat_ok (c.t.d.fact 69 (f := .noat (PySem.Str.ofString "NoState") (PySem.Str.ofString "state")) rfl)
           ox_NoArgument := (exB_exc c.more (x := (PySem.Str.ofString "NoArgument")) (by decide)).1
           iC_NoArgument := (He.meth_ok (c.t.d.fact 70 (f := .meth (PySem.Str.ofString "NoArgument") "__init__") rfl)).at_
           tI_NoArgument := typ_fn (He.meth_ok (c.t.d.fact 70 (f := .meth (PySem.Str.ofString "NoArgument") "__init__") rfl))
           xf_NoArgument := (exB_exc c.more (x := (PySem.Str.ofString "NoArgument")) (by decide)).2
           nx_NoArgument_argument := He.noat_ok (c.t.d.fact 71 (f := .noat (PySem.Str.ofString "NoArgument") (PySem.Str.ofString "argument")) rfl)
           ox_BadCalls := (exB_exc c.more (x := (PySem.Str.ofString "BadCalls")) (by decide)).1
           iC_BadCalls := (He.meth_ok (c.t.d.fact 72 (f := .meth (PySem.Str.ofString "BadCalls") "__init__") rfl)).at_
           tI_BadCalls := typ_fn (He.meth_ok (c.t.d.fact 72 (f := .meth (PySem.Str.ofString "BadCalls") "__init__") rfl))
           xf_BadCalls := (exB_exc c.more (x := (PySem.Str.ofString "BadCalls")) (by decide)).2
           nx_BadCalls_index := He.noat_ok (c.t.d.fact 73 (f := .noat (PySem.Str.ofString "BadCalls") (PySem.Str.ofString "index")) rfl)
           em_BadKind_BadCalls := He.exm_ok (c.t.d.fact 74 (f := .exm (PySem.Str.ofString "BadKind") (PySem.Str.ofString "BadCalls") false) rfl)
           em_NoMethod_BadCalls := He.exm_ok (c.t.d.fact 75 (f := .exm (PySem.Str.ofString "NoMethod") (PySem.Str.ofString "BadCalls") false) rfl)
           em_NoState_BadCalls := He.exm_ok (c.t.d.fact 76 (f := .exm (PySem.Str.ofString "NoState") (PySem.Str.ofString "BadCalls") false) rfl)
           em_NoArgument_BadCalls := He.exm_ok (c.t.d.fact 77 (f := .exm (PySem.Str.ofString "NoArgument") (PySem.Str.ofString "BadCalls") false) rfl)
           em_BadCalls_BadCalls := He.exm_ok (c.t.d.fact 78 (f := .exm (PySem.Str.ofString "BadCalls") (PySem.Str.ofString "BadCalls") true) rfl)
           em_BadKind_TowerError := He.exm_ok (c.t.d.fact 79 (f := .exm (PySem.Str.ofString "BadKind") (PySem.Str.ofString "TowerError") true) rfl)
           em_NoMethod_TowerError := He.exm_ok (c.t.d.fact 80 (f := .exm (PySem.Str.ofString "NoMethod") (PySem.Str.ofString "TowerError") true) rfl)
           em_NoState_TowerError := He.exm_ok (c.t.d.fact 81 (f := .exm (PySem.Str.ofString "NoState") (PySem.Str.ofString "TowerError") true) rfl)
           em_NoArgument_TowerError := He.exm_ok (c.t.d.fact 82 (f := .exm (PySem.Str.ofString "NoArgument") (PySem.Str.ofString "TowerError") true) rfl)
           em_BadCalls_TowerError := He.exm_ok (c.t.d.fact 83 (f := .exm (PySem.Str.ofString "BadCalls") (PySem.Str.ofString "TowerError") true) rfl) }, rfl⟩
def loo0 : List PySem.Str := [(PySem.Str.ofString "_wall"), (PySem.Str.ofString "__name__"), (PySem.Str.ofString "TowerError"), (PySem.Str.ofString "BadKind"), (PySem.Str.ofString "NoMethod"), (PySem.Str.ofString "NoState"), (PySem.Str.ofString "NoArgument"), (PySem.Str.ofString "BadCalls"), (PySem.Str.ofString "LETTERS"), (PySem.Str.ofString "LONGEST_NAME"), (PySem.Str.ofString "is_integer"), (PySem.Str.ofString "is_between"), (PySem.Str.ofString "is_row"), (PySem.Str.ofString "is_row_of"), (PySem.Str.ofString "is_name"), (PySem.Str.ofString "MOST_CALLS"), (PySem.Str.ofString "is_told_call"), (PySem.Str.ofString "states_behind"), (PySem.Str.ofString "reached"), (PySem.Str.ofString "MOST_STATES"), (PySem.Str.ofString "MOST_METHODS"), (PySem.Str.ofString "MOST_VALUES"), (PySem.Str.ofString "MOST_ANSWERS"), (PySem.Str.ofString "are_answers"), (PySem.Str.ofString "is_method"), (PySem.Str.ofString "are_methods"), (PySem.Str.ofString "ordered_method"), (PySem.Str.ofString "Kind"), (PySem.Str.ofString "_law_pool"), (PySem.Str.ofString "_law_draw")]
def loo1 : List PySem.Str := [(PySem.Str.ofString "_law_names"), (PySem.Str.ofString "_law_answers"), (PySem.Str.ofString "_law_method"), (PySem.Str.ofString "_law_model"), (PySem.Str.ofString "_law_copied"), (PySem.Str.ofString "_law_kind"), (PySem.Str.ofString "_law_same"), (PySem.Str.ofString "_law_behind"), (PySem.Str.ofString "_law_reached"), (PySem.Str.ofString "_law_call"), (PySem.Str.ofString "_law_calls"), (PySem.Str.ofString "_law_refused")]
def loo : List PySem.Str := loo0 ++ loo1
abbrev Rw : PySem.W.OpenRow := PySem.W.OpenLaw.row PySem.Challenge.rw_towerup_k07_rows_of_calls
abbrev hk : PySem.W.Hook := He.hookX 4 fal dl [] [] exK
def obv (s : PySem.W.SharedT) : He.AlX := He.obsX 4 fal dl [] [] exK (HandSHeadRun.getT s)
theorem ob_eq (s : PySem.W.SharedT) : obv s = hk.obs s.abs := He.obsX_eq (HandSHeadRun.getT_eq s)
theorem hrun (w : World) : HandSHeadRun.RunEq Rw (PySem.W.view Rw.prog [46]) hk obv 4000 loo w := by
  intro os
  kernel_rfl
end DL
open PySem PySem.W PySem.Calls PyProof.Rows
theorem PySem.Challenge.cw_towerup_k07_rows_of_calls_holds : PySem.Challenge.rw_towerup_k07_rows_of_calls.Holds := by
  w_on; o_law
  refine HandSHeadRun.head_any (r := OpenLaw.row PySem.Challenge.rw_towerup_k07_rows_of_calls) (q := view (OpenLaw.row PySem.Challenge.rw_towerup_k07_rows_of_calls).prog [46]) (H := DL.hk) (ob := DL.obv) (M := 4000) (loose := DL.loo) (d := HandSHeadRun.topDef (OpenLaw.row PySem.Challenge.rw_towerup_k07_rows_of_calls).prog 46) (kwd := []) DL.ob_eq
    (by kernel_rfl) (fun s => by kernel_rfl) DL.hrun (by kernel_rfl) (by kernel_rfl) (by kernel_rfl) (by rfl) (by first | assumption | decide +kernel) (by decide +kernel) ⟨rfl, rfl, rfl, rfl, rfl, by decide +kernel⟩ ?hw ?hc
  case hw => w_witness2
  case hc =>
    refine L2.walk_ofE (l := PySem.Challenge.rw_towerup_k07_rows_of_calls) (n := 63) (k := 11) (x := "_law_script") (CX := L2.CX0) rfl (by decide) (by kernel_rfl) ⟨rfl, by decide, by decide⟩ ?F (fun _ _ _ _ z => z)
    intro w mg fa h Y G hmg0
    obtain ⟨K, KX, c⟩ := Y
    have hmg : mg ("law" : PySem.Str) = some (.ref fa) := by
      have e : (HandSHeadRun.topDef (OpenLaw.row PySem.Challenge.rw_towerup_k07_rows_of_calls).prog 46).name = ("law" : PySem.Str) := by kernel_rfl
      rw [← e]
      exact hmg0
    obtain ⟨T, hT⟩ := DL.txt KX G c
    have ef : T.ad 37 = fa := by
      have h1 := T.g_law
      rw [hmg] at h1
      cases h1
      rfl
    refine ⟨K, T.fd 37, DL.spLaw K, KX, ?_, fun H a ns hl _ hS => ⟨a, ns, rfl, hS, hl, fun _ => rfl⟩, fun base _ _ => ?_⟩
    · have b := L2.FunD.bindsA (ps := ["_law_script"]) T.F_law fun _ _ _ _ _ _ us hl => match us, hl with | [_], _ => rfl
      exact fun s v => b s [v] rfl
    · rw [← ef]
      exact DL.toCX0 (DL.ok_law T DL.law_ok)
